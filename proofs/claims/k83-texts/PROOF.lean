import PyProof.Rows.All
import Wide.All
import OpenK.AllK
import Wide.FinOn
import HandS.ForMost
import HandS.More
import HandS.Exc
import HandS.Defaults
import HandS.Codes
import HandS.Nested
import HandS.HeadHook2
import HandS.HeadHook4
import HandS.EndTab
import HandS.HeadWalk
import HandS.IsInst
import HandS.Iter
import HandS.Text
import HandS.TupAny
import HandS.TupMul
import HandS.TupLe
import HandS.Deep
import HandS.DeepEq
import HandS.Dict
import KE.GoesEnum
import HandS.Zip
import HandS.Property
import HandS.FStr
import HandS.Star
import HandS.Style
import HandS.MakeKw
import HandS.MakeKwOnly
import KE.KSortTupG
import HandS.TupSets
import HandS.Strs
import KE.KDictZip
import KE.GoesZip
import KE.GoesMore
import HandS.OwnEq
import HandS.Head0
import HandS.Head1
import HandS.Head2
import HandS.HeadHook3
import KE.OsScanText
import KE.KIntText
import PySem.Challenge.RW_tielabels_k83_whole_texts_of_marks
set_option Elab.async false
set_option linter.all false
set_option maxRecDepth 100000
set_option maxHeartbeats 1000000
/-! Python data as plain Lean values, and what of the heap stands for them. -/
namespace DL
open PySem PySem.Spec L2 NdefX

/-- a Python value as data -/
inductive D where
  | non | bl (b : Bool) | int (i : Int) | str (x : Str)
  | tup (xs : List D) | lst (xs : List D) | scr (xs : List D) | dic (ks vs : List D)
  | obj (C : Str) (fs : List (Str × D))
  | mrf (k : Nat)
  | glo (x : Str)
  | clo (c : Nat) (env : List D)
  | ty (n : String)

abbrev Tbl := List (Addr × Str)
/-- a lambda of the text: its words, the names that it captures -/
structure LamT where
  qual : Str
  params : Arguments
  body : Expr
  scope : Scope
  fr : List Str
/-- the object at f is the function that the lambda L makes, with the cells cl -/
def LamO (f : Addr) (L : LamT) (cl : List (Str × Addr)) (c : Addr) : HO := .ext fun h => ∃ (od : Option Addr) (sl : Array (Option Value)) (pm ctv : Value), h.get? f = some (⟨.type "function", od, .func (PySem.W.kla_fn "<lambda>" L.qual L.params L.body L.scope cl pm (.ref c) ctv), sl⟩ : Obj)
/-- a cell of a lambda of the number n, held still -/
abbrev CelO (o : Obj) (n : Nat) : HO := .frz o (.own n)
/-- what does not change through the whole law -/
structure Sta where
  K : PySem.W.Frag
  T : Tbl
  L : Nat → Option LamT
/-- what a closure of the number n with the captured values vs stands for: how its object and cells lie -/
def lamC (Ls : Nat → Option LamT) (n : Nat) (f : Addr) (vs : List V) (H : Hp) : Prop := ∃ (L : LamT) (cl : List (Str × Addr)) (c : Addr), Ls n = some L ∧ H f = some (LamO f L cl c) ∧ H c = some (LamX.CodeO c L.qual) ∧ vs.length = L.fr.length ∧
  (∀ y a, cl.lookup y = some a → y ∈ L.fr) ∧ (∀ x y a, cl.lookup x = some a → cl.lookup y = some a → x = y) ∧
  ∀ (i : Nat) (y : Str), L.fr[i]? = some y → ∃ a o u v, cl.lookup y = some a ∧ H a = some (CelO o n) ∧ o.data = .cell (some u) ∧ vs[i]? = some v ∧ L2.RelV v u
theorem lamC.mono {Ls : Nat → Option LamT} {n : Nat} {f : Addr} {vs : List V} {H H' : Hp} (s : ∀ b o, H b = some o → H' b = some o) : lamC Ls n f vs H → lamC Ls n f vs H' := fun ⟨L, cl, c, e, h1, h2, hl, h3, h4, h5⟩ =>
  ⟨L, cl, c, e, s _ _ h1, s _ _ h2, hl, h3, h4, fun i y e => let ⟨a, o, u, v, z1, z2, z3, z4, z5⟩ := h5 i y e; ⟨a, o, u, v, z1, s _ _ z2, z3, z4, z5⟩⟩

mutual
/-- v is the datum d in the frozen part H0, the changing objects standing at mm -/
def Dp (S : Sta) (H0 : Hp) (mm : List Addr) : V → D → Prop
  | v, .non => v = .non
  | v, .bl b => v = .bl b
  | v, .int i => v = .int i
  | v, .str x => v = .str x
  | v, .tup ds => ∃ a vs, v = .ref a ∧ SqT S.K H0 a vs ∧ Dps S H0 mm vs ds
  | v, .lst ds => ∃ a vs, v = .ref a ∧ H0 a = some (.lst vs) ∧ Dps S H0 mm vs ds
  | v, .scr ds => ∃ a vs, v = .ref a ∧ SqL S.K H0 a vs ∧ Dps S H0 mm vs ds
  | v, .dic ks vs => ∃ a kvs, v = .ref a ∧ H0 a = some (.dK kvs) ∧ Dps S H0 mm (kvs.map fun p => kV p.1) ks ∧ Dps S H0 mm (kvs.map (·.2)) vs
  | v, .obj C fs => ∃ a dx fvs, v = .ref a ∧ H0 a = some (.ins (He.ga S.K C) dx fvs) ∧ Dfs S H0 mm fvs fs
  | v, .mrf k => ∃ a, mm[k]? = some a ∧ v = .ref a
  | v, .glo x => v = .ref (He.ga S.K x)
  | v, .clo c env => ∃ a vs, v = .ref a ∧ lamC S.L c a vs H0 ∧ Dps S H0 mm vs env
  | v, .ty n => v = .ty n
def Dps (S : Sta) (H0 : Hp) (mm : List Addr) : List V → List D → Prop
  | vs, [] => vs = []
  | vs, d :: ds => ∃ v r, vs = v :: r ∧ Dp S H0 mm v d ∧ Dps S H0 mm r ds
def Dfs (S : Sta) (H0 : Hp) (mm : List Addr) : List (Str × V) → List (Str × D) → Prop
  | fvs, [] => fvs = []
  | fvs, (f, d) :: fs => ∃ v r, fvs = (f, v) :: r ∧ Dp S H0 mm v d ∧ Dfs S H0 mm r fs
end

/-- all that stands, stands still -/
abbrev Sub (H H' : Hp) : Prop := ∀ a o, H a = some o → H' a = some o
theorem Sub.refl {H : Hp} : Sub H H := fun _ _ h => h
theorem Sub.trans {H H1 H2 : Hp} (a : Sub H H1) (b : Sub H1 H2) : Sub H H2 := fun x o h => b x o (a x o h)
theorem Sub.alloc {H : Hp} {p : Addr} {o : HO} (h : H p = none) : Sub H (upd H p o) := fun a u e => by rw [upd_ne (ne_of_none e h)]; exact e
theorem sqT_sub {K : PySem.W.Frag} {H H' : Hp} (s : Sub H H') {a : Addr} {xs : List V} (h : SqT K H a xs) : SqT K H' a xs := by
  rcases h with (h | ⟨o, h⟩) | h
  · exact .inl (.inl (s _ _ h))
  · exact .inl (.inr ⟨o, s _ _ h⟩)
  · exact .inr h
theorem sqL_sub {K : PySem.W.Frag} {H H' : Hp} (s : Sub H H') {a : Addr} {xs : List V} (h : SqL K H a xs) : SqL K H' a xs := by
  rcases h with (h | ⟨o, h⟩) | h
  · exact .inl (.inl (s _ _ h))
  · exact .inl (.inr ⟨o, s _ _ h⟩)
  · exact .inr h
/-- the changing objects: more of them -/
abbrev Pre (mm mm' : List Addr) : Prop := ∃ more, mm' = mm ++ more
theorem Pre.refl {mm : List Addr} : Pre mm mm := ⟨[], by simp⟩
theorem Pre.trans {a b c : List Addr} (h : Pre a b) (h' : Pre b c) : Pre a c := by
  obtain ⟨m, rfl⟩ := h
  obtain ⟨n, rfl⟩ := h'
  exact ⟨m ++ n, by simp⟩
theorem Pre.at {mm mm' : List Addr} (h : Pre mm mm') {k : Nat} {a : Addr} (e : mm[k]? = some a) : mm'[k]? = some a := by
  obtain ⟨m, rfl⟩ := h
  rw [List.getElem?_append_left (List.getElem?_eq_some_iff.mp e).1]
  exact e
section
variable {S : Sta} {H0 H0' : Hp} {mm mm' : List Addr}
mutual
theorem Dp.mono (s : Sub H0 H0') (p : Pre mm mm') : ∀ (d : D) {v : V}, Dp S H0 mm v d → Dp S H0' mm' v d
  | .non, _, h => h
  | .bl _, _, h => h
  | .int _, _, h => h
  | .str _, _, h => h
  | .tup ds, _, h => by
    obtain ⟨a, vs, e, q, r⟩ := h
    exact ⟨a, vs, e, sqT_sub s q, Dps.mono s p ds r⟩
  | .lst ds, _, h => by
    obtain ⟨a, vs, e, q, r⟩ := h
    exact ⟨a, vs, e, s _ _ q, Dps.mono s p ds r⟩
  | .scr ds, _, h => by
    obtain ⟨a, vs, e, q, r⟩ := h
    exact ⟨a, vs, e, sqL_sub s q, Dps.mono s p ds r⟩
  | .dic ks vs, _, h => by
    obtain ⟨a, kvs, e, q, r, t⟩ := h
    exact ⟨a, kvs, e, s _ _ q, Dps.mono s p ks r, Dps.mono s p vs t⟩
  | .obj C fs, _, h => by
    obtain ⟨a, dx, fvs, e, q, r⟩ := h
    exact ⟨a, dx, fvs, e, s _ _ q, Dfs.mono s p fs r⟩
  | .mrf k, _, h => by
    obtain ⟨a, q, e⟩ := h
    exact ⟨a, p.at q, e⟩
  | .glo _, _, h => h
  | .clo c env, _, h => by
    obtain ⟨a, vs, e, q, r⟩ := h
    exact ⟨a, vs, e, lamC.mono s q, Dps.mono s p env r⟩
  | .ty _, _, h => h
theorem Dps.mono (s : Sub H0 H0') (p : Pre mm mm') : ∀ (ds : List D) {vs : List V}, Dps S H0 mm vs ds → Dps S H0' mm' vs ds
  | [], _, h => h
  | d :: ds, _, h => by
    obtain ⟨v, r, e, q, t⟩ := h
    exact ⟨v, r, e, Dp.mono s p d q, Dps.mono s p ds t⟩
theorem Dfs.mono (s : Sub H0 H0') (p : Pre mm mm') : ∀ (fs : List (Str × D)) {fvs : List (Str × V)}, Dfs S H0 mm fvs fs → Dfs S H0' mm' fvs fs
  | [], _, h => h
  | (f, d) :: fs, _, h => by
    obtain ⟨v, r, e, q, t⟩ := h
    exact ⟨v, r, e, Dp.mono s p d q, Dfs.mono s p fs t⟩
end
theorem Dps.length : ∀ {ds : List D} {vs : List V}, Dps S H0 mm vs ds → vs.length = ds.length
  | [], _, h => by cases (show _ = [] from h); rfl
  | d :: ds, _, h => by
    obtain ⟨v, r, rfl, _, t⟩ := h
    rw [List.length_cons, List.length_cons, Dps.length t]
theorem Dps.get : ∀ {ds : List D} {vs : List V} {i : Nat} {d : D}, Dps S H0 mm vs ds → ds[i]? = some d → ∃ v, vs[i]? = some v ∧ Dp S H0 mm v d
  | [], _, _, _, _, e => by simp at e
  | d :: ds, _, 0, d', h, e => by
    obtain ⟨v, r, rfl, q, t⟩ := h
    simp at e
    subst e
    exact ⟨v, by simp, q⟩
  | d :: ds, _, i + 1, d', h, e => by
    obtain ⟨v, r, rfl, q, t⟩ := h
    obtain ⟨v', e1, e2⟩ := Dps.get (i := i) t (by simpa using e)
    exact ⟨v', by simpa using e1, e2⟩
theorem Dps.nil : Dps S H0 mm [] [] := rfl
theorem Dps.cons {v : V} {d : D} {vs : List V} {ds : List D} (h : Dp S H0 mm v d) (t : Dps S H0 mm vs ds) : Dps S H0 mm (v :: vs) (d :: ds) := ⟨v, vs, rfl, h, t⟩
theorem Dps.append : ∀ {ds es : List D} {vs ws : List V}, Dps S H0 mm vs ds → Dps S H0 mm ws es → Dps S H0 mm (vs ++ ws) (ds ++ es)
  | [], _, _, _, h, g => by cases (show _ = [] from h); exact g
  | d :: ds, _, _, _, h, g => by
    obtain ⟨v, r, rfl, q, t⟩ := h
    exact ⟨v, _, rfl, q, Dps.append t g⟩
theorem Dps.take : ∀ {ds : List D} {vs : List V} (n : Nat), Dps S H0 mm vs ds → Dps S H0 mm (vs.take n) (ds.take n)
  | _, _, 0, _ => by simp [Dps]
  | [], _, n + 1, h => by cases (show _ = [] from h); simp [Dps]
  | d :: ds, _, n + 1, h => by
    obtain ⟨v, r, rfl, q, t⟩ := h
    exact ⟨v, _, rfl, q, Dps.take n t⟩
theorem Dps.drop : ∀ {ds : List D} {vs : List V} (n : Nat), Dps S H0 mm vs ds → Dps S H0 mm (vs.drop n) (ds.drop n)
  | _, _, 0, h => h
  | [], _, n + 1, h => by cases (show _ = [] from h); simp [Dps]
  | d :: ds, _, n + 1, h => by
    obtain ⟨v, r, rfl, q, t⟩ := h
    exact Dps.drop n t
theorem Dps.reverse : ∀ {ds : List D} {vs : List V}, Dps S H0 mm vs ds → Dps S H0 mm vs.reverse ds.reverse
  | [], _, h => by cases (show _ = [] from h); rfl
  | d :: ds, _, h => by
    obtain ⟨v, r, rfl, q, t⟩ := h
    rw [List.reverse_cons, List.reverse_cons]
    exact Dps.append (Dps.reverse t) ⟨v, [], rfl, q, rfl⟩
theorem Dps.set : ∀ {ds : List D} {vs : List V} (i : Nat) {v : V} {d : D}, Dp S H0 mm v d → Dps S H0 mm vs ds → Dps S H0 mm (vs.set i v) (ds.set i d)
  | [], _, _, _, _, _, h => by cases (show _ = [] from h); rfl
  | d :: ds, _, 0, v', d', g, h => by
    obtain ⟨v, r, rfl, q, t⟩ := h
    exact ⟨v', _, rfl, g, t⟩
  | d :: ds, _, i + 1, v', d', g, h => by
    obtain ⟨v, r, rfl, q, t⟩ := h
    exact ⟨v, _, rfl, q, Dps.set i g t⟩
theorem Dfs.look : ∀ {fs : List (Str × D)} {fvs : List (Str × V)} {f : Str} {d : D}, Dfs S H0 mm fvs fs → fs.lookup f = some d → ∃ v, fvs.lookup f = some v ∧ Dp S H0 mm v d
  | [], _, _, _, _, e => by simp at e
  | (g, d) :: fs, _, f, d', h, e => by
    obtain ⟨v, r, rfl, q, t⟩ := h
    rw [List.lookup_cons] at e ⊢
    cases hg : f == g with
    | true =>
      rw [hg] at e
      cases e
      exact ⟨v, rfl, q⟩
    | false =>
      rw [hg] at e
      exact Dfs.look t e
theorem Dfs.none : ∀ {fs : List (Str × D)} {fvs : List (Str × V)} {f : Str}, Dfs S H0 mm fvs fs → fs.lookup f = none → fvs.lookup f = none
  | [], _, _, h, _ => by cases (show _ = [] from h); rfl
  | (g, d) :: fs, _, f, h, e => by
    obtain ⟨v, r, rfl, q, t⟩ := h
    rw [List.lookup_cons] at e ⊢
    cases hg : f == g with
    | true =>
      rw [hg] at e
      cases e
    | false =>
      rw [hg] at e
      exact Dfs.none t e
theorem Dfs.length : ∀ {fs : List (Str × D)} {fvs : List (Str × V)}, Dfs S H0 mm fvs fs → fvs.length = fs.length
  | [], _, h => by cases (show _ = [] from h); rfl
  | (g, d) :: fs, _, h => by
    obtain ⟨v, r, rfl, q, t⟩ := h
    rw [List.length_cons, List.length_cons, Dfs.length t]
/-- an attribute stored: HandS's putF, of data -/
def putD (f : Str) (d : D) : List (Str × D) → List (Str × D)
  | [] => [(f, d)]
  | (g, e) :: r => if g = f then (g, d) :: r else (g, e) :: putD f d r
end
end DL
set_option maxRecDepth 100000
set_option maxHeartbeats 1000000
/-! Where one stands: slots, changing objects; readings of data. -/
namespace DL
open PySem PySem.Spec L2 NdefX

/-- a slot: empty; a datum (its objects stand still); a list, dict or instance that only this slot holds -/
inductive Sl where
  | un | fz (d : D) | ow (d : D)
abbrev Env := List Sl
/-- an object that changes, held by reference -/
inductive MO where
  | lst (ds : List D) | ins (C : Str) (fs : List (Str × D))
abbrev Mu := List MO
/-- an exception: its class, its fields -/
structure Exn where
  C : Str
  fs : List (Str × D)
/-- the value of an expression: a datum; one just made; what the slot i holds alone -/
inductive Vl where
  | val (d : D) | frs (d : D) | slt (i : Nat)
inductive R (α : Type) where
  | ok (a : α) (ρ : Env) (μ : Mu) | exc (x : Exn) (ρ : Env) (μ : Mu) | no
abbrev EF (α : Type) := Env → Mu → R α

section
variable (S : Sta)
def OwOk (H0 H : Hp) (mm : List Addr) (a : Addr) : D → Prop
  | .lst ds => ∃ vs, H a = some (.lst vs) ∧ Dps S H0 mm vs ds
  | .dic ks vs => ∃ kvs, H a = some (.dK kvs) ∧ Dps S H0 mm (kvs.map fun p => kV p.1) ks ∧ Dps S H0 mm (kvs.map (·.2)) vs
  | .obj C fs => ∃ dx fvs, H a = some (.ins (He.ga S.K C) dx fvs) ∧ Dfs S H0 mm fvs fs
  | _ => False
def MoOk (H0 H : Hp) (mm : List Addr) (a : Addr) : MO → Prop
  | .lst ds => ∃ vs, H a = some (.lst vs) ∧ Dps S H0 mm vs ds
  | .ins C fs => ∃ dx fvs, H a = some (.ins (He.ga S.K C) dx fvs) ∧ Dfs S H0 mm fvs fs
structure MuOk (H0 H : Hp) (mm : List Addr) (μ : Mu) : Prop where
  len : mm.length = μ.length
  nd : mm.Nodup
  at_ : ∀ (k : Nat) (a : Addr) (m : MO), mm[k]? = some a → μ[k]? = some m → MoOk S H0 H mm a m
  h0 : ∀ a ∈ mm, H0 a = none
/-- a is held by a slot alone -/
def Own (σ : St) (ρ : Env) (a : Addr) : Prop := ∃ (i : Nat) (d : D), ρ[i]? = some (.ow d) ∧ σ[i]? = some (some (.ref a))
def SlOk (H0 H : Hp) (mm : List Addr) (x : Option (Option V)) : Sl → Prop
  | .un => True
  | .fz d => ∃ v, x = some (some v) ∧ Dp S H0 mm v d
  | .ow d => ∃ a, x = some (some (.ref a)) ∧ H0 a = none ∧ a ∉ mm ∧ OwOk S H0 H mm a d
structure EnvOk (H0 H : Hp) (mm : List Addr) (σ : St) (ρ : Env) : Prop where
  len : σ.length = ρ.length
  at_ : ∀ (i : Nat) (s : Sl), ρ[i]? = some s → SlOk S H0 H mm σ[i]? s
  sep : ∀ (i j : Nat) (a : Addr) (d d' : D), i ≠ j → ρ[i]? = some (.ow d) → ρ[j]? = some (.ow d') → σ[i]? = some (some (.ref a)) → σ[j]? = some (some (.ref a)) → False
structure Glo (H0 H : Hp) (mm : List Addr) (μ : Mu) : Prop where
  sub : Sub H0 H
  mu : MuOk S H0 H mm μ
  tab : LamX.Tabs S.T H
  nt : ∀ b ps, H0 b ≠ some (.tbl ps)
structure Ok (H0 H : Hp) (mm : List Addr) (μ : Mu) (σ : St) (ρ : Env) : Prop where
  g : Glo S H0 H mm μ
  e : EnvOk S H0 H mm σ ρ
end
/-- from one moment to the next one: what is not O's and not of mm stands as it stood -/
structure Nx (O : Addr → Prop) (H0 H : Hp) (mm : List Addr) (H0' H' : Hp) (mm' : List Addr) : Prop where
  old0 : Sub H0 H0'
  new0 : ∀ a, H a ≠ none → ¬ O a → H0' a = H0 a
  keep : ∀ a o, H a = some o → a ∉ mm → ¬ O a → (∀ ps, o ≠ .tbl ps) → H' a = some o
  grow : ∀ a, H a ≠ none → H' a ≠ none
  mmx : ∃ more, mm' = mm ++ more ∧ ∀ a ∈ more, H a = none
/-- the new owner's objects are the old owner's or new ones -/
def OwN (H : Hp) (O O' : Addr → Prop) : Prop := ∀ a, O' a → O a ∨ H a = none
section
variable {S : Sta} {H0 H H0' H' H0'' H'' : Hp} {mm mm' mm'' : List Addr} {μ μ' : Mu} {σ σ' : St} {ρ ρ' ρ'' : Env} {O O' O'' : Addr → Prop} {v : V} {d : D}
theorem Nx.pre (n : Nx O H0 H mm H0' H' mm') : Pre mm mm' := let ⟨m, e, _⟩ := n.mmx; ⟨m, e⟩
theorem Nx.refl : Nx O H0 H mm H0 H mm := ⟨.refl, fun _ _ _ => rfl, fun _ _ e _ _ _ => e, fun _ h => h, [], by simp, by simp⟩
theorem Nx.trans (n : Nx O H0 H mm H0' H' mm') (w : OwN H O O') (m : Nx O' H0' H' mm' H0'' H'' mm'') : Nx O H0 H mm H0'' H'' mm'' where
  old0 := n.old0.trans m.old0
  new0 := fun a h o => by
    rw [m.new0 a (n.grow a h) fun z => (w a z).elim o h, n.new0 a h o]
  keep := fun a ob e h o t => by
    have hn : H a ≠ none := by rw [e]; simp
    obtain ⟨more, e1, e2⟩ := n.mmx
    refine m.keep a ob (n.keep a ob e h o t) ?_ (fun z => (w a z).elim o hn) t
    rw [e1]
    intro z
    rcases List.mem_append.mp z with z | z
    · exact h z
    · exact hn (e2 a z)
  grow := fun a h => m.grow a (n.grow a h)
  mmx := by
    obtain ⟨m1, e1, f1⟩ := n.mmx
    obtain ⟨m2, e2, f2⟩ := m.mmx
    refine ⟨m1 ++ m2, by rw [e2, e1, List.append_assoc], fun a h => ?_⟩
    rcases List.mem_append.mp h with h | h
    · exact f1 a h
    · cases q : H a with
      | none => rfl
      | some o => exact absurd (f2 a h) (n.grow a (by rw [q]; simp))
theorem OwN.refl : OwN H O O := fun _ h => .inl h
theorem OwN.trans (n : Nx O H0 H mm H0' H' mm') (w : OwN H O O') (w' : OwN H' O' O'') : OwN H O O'' := fun a h => by
  rcases w' a h with z | z
  · exact w a z
  · cases q : H a with
    | none => exact .inr rfl
    | some o => exact absurd z (n.grow a (by rw [q]; simp))
theorem Dp.nx (n : Nx O H0 H mm H0' H' mm') (h : Dp S H0 mm v d) : Dp S H0' mm' v d := Dp.mono n.old0 n.pre d h
theorem Dps.nx (n : Nx O H0 H mm H0' H' mm') {vs : List V} {ds : List D} (h : Dps S H0 mm vs ds) : Dps S H0' mm' vs ds := Dps.mono n.old0 n.pre ds h

theorem OwOk.mono {a : Addr} (s : Sub H0 H0') (p : Pre mm mm') (e : H' a = H a) : ∀ {d : D}, OwOk S H0 H mm a d → OwOk S H0' H' mm' a d
  | .lst _, ⟨vs, h, t⟩ => ⟨vs, e.trans h, Dps.mono s p _ t⟩
  | .dic _ _, ⟨kvs, h, t, r⟩ => ⟨kvs, e.trans h, Dps.mono s p _ t, Dps.mono s p _ r⟩
  | .obj _ _, ⟨dx, fvs, h, t⟩ => ⟨dx, fvs, e.trans h, Dfs.mono s p _ t⟩
theorem OwOk.there {a : Addr} : ∀ {d : D}, OwOk S H0 H mm a d → ∃ o, H a = some o ∧ ∀ ps, o ≠ .tbl ps
  | .lst _, ⟨_, h, _⟩ => ⟨_, h, fun _ z => by cases z⟩
  | .dic _ _, ⟨_, h, _⟩ => ⟨_, h, fun _ z => by cases z⟩
  | .obj _ _, ⟨_, _, h, _⟩ => ⟨_, h, fun _ z => by cases z⟩
theorem MoOk.there {a : Addr} : ∀ {m : MO}, MoOk S H0 H mm a m → ∃ o, H a = some o ∧ ∀ ps, o ≠ .tbl ps
  | .lst _, ⟨_, h, _⟩ => ⟨_, h, fun _ z => by cases z⟩
  | .ins _ _, ⟨_, _, h, _⟩ => ⟨_, h, fun _ z => by cases z⟩
theorem MoOk.mono {a : Addr} (s : Sub H0 H0') (p : Pre mm mm') (e : H' a = H a) : ∀ {m : MO}, MoOk S H0 H mm a m → MoOk S H0' H' mm' a m
  | .lst _, ⟨vs, h, t⟩ => ⟨vs, e.trans h, Dps.mono s p _ t⟩
  | .ins _ _, ⟨dx, fvs, h, t⟩ => ⟨dx, fvs, e.trans h, Dfs.mono s p _ t⟩
/-- mm's objects are tracked -/
theorem MuOk.there (m : MuOk S H0 H mm μ) {a : Addr} (h : a ∈ mm) : ∃ o, H a = some o ∧ ∀ ps, o ≠ .tbl ps := by
  obtain ⟨k, hk, e⟩ := List.mem_iff_getElem.mp h
  have e1 : mm[k]? = some a := by rw [List.getElem?_eq_getElem hk, e]
  have hk2 : k < μ.length := by rw [← m.len]; exact hk
  exact (m.at_ k a _ e1 (List.getElem?_eq_getElem hk2)).there

/-- what a value is, in the state -/
def VlOk (S : Sta) (G H0 H : Hp) (mm : List Addr) (σ : St) (ρ : Env) (v : V) : Vl → Prop
  | .val d => Dp S H0 mm v d
  | .frs d => ∃ a, v = .ref a ∧ G a = none ∧ H0 a = none ∧ a ∉ mm ∧ ¬ Own σ ρ a ∧ OwOk S H0 H mm a d
  | .slt i => σ[i]? = some (some v) ∧ ∃ s, ρ[i]? = some s ∧ ∀ z : s = .un, False
/-- the slots that held something hold something -/
def Hold (ρ ρ' : Env) : Prop := ∀ (i : Nat) (s : Sl), ρ[i]? = some s → (s = .un → False) → ∃ s' : Sl, ρ'[i]? = some s' ∧ (s' = .un → False)
theorem Hold.refl : Hold ρ ρ := fun _ s e h => ⟨s, e, h⟩
theorem Hold.trans (a : Hold ρ ρ') (b : Hold ρ' ρ'') : Hold ρ ρ'' := fun i s e h => by
  obtain ⟨s', e', h'⟩ := a i s e h
  exact b i s' e' h'
/-- a value stays what it is -/
theorem VlOk.nx {G : Hp} (n : Nx (Own σ ρ) H0 H mm H0' H' mm') (w : OwN H (Own σ ρ) (Own σ ρ')) (k : Hold ρ ρ') : ∀ {x : Vl}, VlOk S G H0 H mm σ ρ v x → VlOk S G H0' H' mm' σ ρ' v x
  | .val _, h => Dp.nx n h
  | .frs d, ⟨a, e, hg, h0, hm, ho, q⟩ => by
    obtain ⟨o, eo, nt⟩ := q.there
    have hn : H a ≠ none := by rw [eo]; simp
    have e' : H' a = H a := by rw [n.keep a o eo hm ho nt, eo]
    refine ⟨a, e, hg, by rw [n.new0 a hn ho]; exact h0, ?_, fun z => (w a z).elim ho hn, q.mono n.old0 n.pre e'⟩
    obtain ⟨more, e1, e2⟩ := n.mmx
    rw [e1]
    intro z
    rcases List.mem_append.mp z with z | z
    · exact hm z
    · exact hn (e2 a z)
  | .slt i, ⟨e, s, e1, e2⟩ => by
    obtain ⟨s', a, b⟩ := k i s e1 e2
    exact ⟨e, s', a, b⟩
/-- seen from an earlier moment -/
theorem VlOk.from {G G' : Hp} (g : ∀ a, G' a = none → G a = none) : ∀ {x : Vl}, VlOk S G' H0 H mm σ ρ v x → VlOk S G H0 H mm σ ρ v x
  | .val _, h => h
  | .frs d, ⟨a, e, hg, q⟩ => ⟨a, e, g a hg, q⟩
  | .slt i, h => h
theorem Nx.back (n : Nx O H0 H mm H0' H' mm') : ∀ a, H' a = none → H a = none := fun a h => by
  cases q : H a with
  | none => rfl
  | some o => exact absurd h (n.grow a (by rw [q]; simp))
end

/-! ### readings -/

section
variable (S : Sta)
/-- an exception's own dict holds its fields -/
def XRep (H0 H : Hp) (mm : List Addr) (cls : Value) (od : Option Addr) (x : Exn) : Prop :=
  cls = .ref (He.ga S.K x.C) ∧ (match x.fs with
    | [] => od = none ∨ True
    | fs => ∃ d fvs, od = some d ∧ H d = some (.xd fvs) ∧ Dfs S H0 mm fvs fs)
end
/-- a kind of results: what of the heap stands for them -/
structure Knd (S : Sta) (α β : Type) where
  A : Hp → Hp → Hp → List Addr → St → Env → β → α → Prop
  nx : ∀ {G H0 H H0' H' : Hp} {mm mm' : List Addr} {σ : St} {ρ ρ' : Env} {v : β} {x : α}, Nx (Own σ ρ) H0 H mm H0' H' mm' → OwN H (Own σ ρ) (Own σ ρ') → Hold ρ ρ' → A G H0 H mm σ ρ v x → A G H0' H' mm' σ ρ' v x
  fr : ∀ {G G' H0 H : Hp} {mm : List Addr} {σ : St} {ρ : Env} {v : β} {x : α}, (∀ a, G' a = none → G a = none) → A G' H0 H mm σ ρ v x → A G H0 H mm σ ρ v x
/-- values -/
def knV (S : Sta) : Knd S Vl V := ⟨VlOk S, fun n w k h => h.nx n w k, fun g h => h.from g⟩
/-- truths -/
def knB (S : Sta) : Knd S Bool Bool := ⟨fun _ _ _ _ _ _ v x => v = x, fun _ _ _ h => h, fun _ h => h⟩
/-- rows of data -/
def knA (S : Sta) : Knd S (List D) (List V) := ⟨fun _ H0 _ mm _ _ vs ds => Dps S H0 mm vs ds, fun n _ _ h => h.nx n, fun _ h => h⟩
/-- rows of values -/
def VlsOk (S : Sta) (G H0 H : Hp) (mm : List Addr) (σ : St) (ρ : Env) : List V → List Vl → Prop
  | vs, [] => vs = []
  | vs, x :: xs => ∃ v r, vs = v :: r ∧ VlOk S G H0 H mm σ ρ v x ∧ VlsOk S G H0 H mm σ ρ r xs
theorem VlsOk.from {S : Sta} {H0 H : Hp} {mm : List Addr} {σ : St} {ρ : Env} {G G' : Hp} (g : ∀ a, G' a = none → G a = none) : ∀ {xs : List Vl} {vs : List V}, VlsOk S G' H0 H mm σ ρ vs xs → VlsOk S G H0 H mm σ ρ vs xs
  | [], _, h => h
  | x :: xs, _, ⟨v, r, e, q, t⟩ => ⟨v, r, e, q.from g, VlsOk.from g t⟩
theorem VlsOk.nx {S : Sta} {H0 H H0' H' : Hp} {mm mm' : List Addr} {σ : St} {ρ ρ' : Env} {G : Hp} (n : Nx (Own σ ρ) H0 H mm H0' H' mm') (w : OwN H (Own σ ρ) (Own σ ρ')) (k : Hold ρ ρ') : ∀ {xs : List Vl} {vs : List V}, VlsOk S G H0 H mm σ ρ vs xs → VlsOk S G H0' H' mm' σ ρ' vs xs
  | [], _, h => h
  | x :: xs, _, ⟨v, r, e, q, t⟩ => ⟨v, r, e, q.nx n w k, VlsOk.nx n w k t⟩
def knL (S : Sta) : Knd S (List Vl) (List V) := ⟨VlsOk S, fun n w k h => h.nx n w k, fun g h => h.from g⟩
section
variable {S : Sta} (W : WX) {α β : Type} (k : Knd S α β)
/-- the end of what stands at H0 H mm σ ρ -/
def EndK (H0 H : Hp) (mm : List Addr) (σ : St) (ρ : Env) (Q : β → Hp → Prop) : R α → Prop
  | .ok a ρ' μ' => ∀ v H0' H' mm', Ok S H0' H' mm' μ' σ ρ' → Nx (Own σ ρ) H0 H mm H0' H' mm' → OwN H (Own σ ρ) (Own σ ρ') → Hold ρ ρ' → k.A H H0' H' mm' σ ρ' v a → Q v H'
  | .exc x ρ' μ' => ∀ cls od H0' H' mm', Ok S H0' H' mm' μ' σ ρ' → Nx (Own σ ρ) H0 H mm H0' H' mm' → OwN H (Own σ ρ) (Own σ ρ') → XRep S H0' H' mm' cls od x → W cls od σ H'
  | .no => False
/-- the reading: the function g tells the result -/
def rdK (g : EF α) : St → Hp → (β → Hp → Prop) → Prop := fun σ H Q => ∃ H0 mm ρ μ, Ok S H0 H mm μ σ ρ ∧ EndK W k H0 H mm σ ρ Q (g ρ μ)
/-- what is known of values on hand: seen from a moment's heap, now -/
abbrev PK (A : Type) := Hp → Hp → Hp → List Addr → Env → A → Prop
/-- .. with values on hand: where the whole began (H0p Hp mmp ρp), where one stands; PA tells what is known of the values, the function tells the rest -/
def rk {A : Type} (PA : PK A) (f : A → EF α) : St → Hp → (β → Hp → Prop) → Prop := fun σ H Q => ∃ H0p Hp mmp ρp H0 mm ρ μ a, Ok S H0 H mm μ σ ρ ∧ Nx (Own σ ρp) H0p Hp mmp H0 H mm ∧ OwN Hp (Own σ ρp) (Own σ ρ) ∧ Hold ρp ρ ∧ PA Hp H0 H mm ρ a ∧ EndK W k H0p Hp mmp σ ρp Q (f a ρ μ)
end
abbrev EndV (S : Sta) (W : WX) (H0 H : Hp) (mm : List Addr) (σ : St) (ρ : Env) (Q : VK) (r : R Vl) : Prop := EndK W (knV S) H0 H mm σ ρ Q r
/-- an expression's reading, a test's, an argument list's -/
abbrev rd (S : Sta) (W : WX) (g : EF Vl) : TE := rdK W (knV S) g
abbrev rt (S : Sta) (W : WX) (g : EF Bool) : TT := rdK W (knB S) g
abbrev ra (S : Sta) (W : WX) (g : EF (List D)) : TA := rdK W (knA S) g
abbrev rl (S : Sta) (W : WX) (g : EF (List Vl)) : TA := rdK W (knL S) g
def bnd {α β : Type} (g : EF α) (f : α → EF β) : EF β := fun ρ μ => match g ρ μ with
  | .ok a ρ' μ' => f a ρ' μ'
  | .exc x ρ' μ' => .exc x ρ' μ'
  | .no => .no
def ret {α : Type} (a : α) : EF α := fun ρ μ => .ok a ρ μ
def stuck {α : Type} : EF α := fun _ _ => .no
/-- what is known of values on hand stays so -/
def Stay (σ : St) {A : Type} (PA : PK A) : Prop := ∀ (G H0 H : Hp) (mm : List Addr) (ρ : Env) (a : A) (H0' H' : Hp) (mm' : List Addr) (ρ' : Env),
  Nx (Own σ ρ) H0 H mm H0' H' mm' → OwN H (Own σ ρ) (Own σ ρ') → Hold ρ ρ' → PA G H0 H mm ρ a → PA G H0' H' mm' ρ' a
abbrev P0 : PK Unit := fun _ _ _ _ _ _ => True
abbrev PVk {S : Sta} {α β : Type} (k : Knd S α β) (σ : St) {A : Type} (PA : PK A) (v : β) : PK (A × α) := fun G H0 H mm ρ a => PA G H0 H mm ρ a.1 ∧ k.A G H0 H mm σ ρ v a.2
section
variable {S : Sta} {W : WX} {σ : St} {H : Hp} {α β γ δ A : Type} {k : Knd S α β} {k' : Knd S γ δ} {Q : β → Hp → Prop} {Q' : δ → Hp → Prop} {PA : PK A}
theorem stay0 : Stay σ P0 := fun _ _ _ _ _ _ _ _ _ _ _ _ _ _ => trivial
theorem stayV {v : β} (h : Stay σ PA) : Stay σ (PVk k σ PA v) := fun _ _ _ _ _ _ _ _ _ _ n w l q => ⟨h _ _ _ _ _ _ _ _ _ _ n w l q.1, k.nx n w l q.2⟩
theorem rk_start {g : EF α} (h : rdK W k g σ H Q) : rk W k P0 (fun _ => g) σ H Q := let ⟨H0, mm, ρ, μ, a, c⟩ := h; ⟨H0, H, mm, ρ, H0, mm, ρ, μ, (), a, .refl, .refl, .refl, trivial, c⟩
/-- the next value -/
theorem rk_push (st : Stay σ PA) {f : A → α → EF γ} {g : EF α} (h : rk W k' PA (fun a => bnd g (f a)) σ H Q') : rdK W k g σ H fun v H' => rk W k' (PVk k σ PA v) (fun a => f a.1 a.2) σ H' Q' := by
  obtain ⟨H0p, Hp, mmp, ρp, H0, mm, ρ, μ, a, ok, nx0, ow0, ho0, pa, en⟩ := h
  refine ⟨H0, mm, ρ, μ, ok, ?_⟩
  replace en : EndK W k' H0p Hp mmp σ ρp Q' (bnd g (f a) ρ μ) := en
  unfold bnd at en
  cases q : g ρ μ with
  | no => rw [q] at en; exact en
  | exc x ρ' μ' =>
    rw [q] at en
    intro cls od H02 H2 mm2 ok2 nx2 ow2 xr
    exact en cls od H02 H2 mm2 ok2 (nx0.trans ow0 nx2) (OwN.trans nx0 ow0 ow2) xr
  | ok x ρ' μ' =>
    rw [q] at en
    intro v H0' H' mm' ok' nx ow ho va
    exact ⟨H0p, Hp, mmp, ρp, H0', mm', ρ', μ', (a, x), ok', nx0.trans ow0 nx, OwN.trans nx0 ow0 ow, ho0.trans ho, ⟨st _ _ _ _ _ _ _ _ _ _ nx ow ho pa, k.fr nx0.back va⟩, en⟩
/-- an end, seen from a later moment -/
theorem EndK.later {H0 H1 H0' H' : Hp} {mm mm' : List Addr} {ρ ρ' : Env} {r : R α} (nx : Nx (Own σ ρ) H0 H1 mm H0' H' mm') (ow : OwN H1 (Own σ ρ) (Own σ ρ')) (ho : Hold ρ ρ') (en : EndK W k H0 H1 mm σ ρ Q r) : EndK W k H0' H' mm' σ ρ' Q r := by
  cases r with
  | no => exact en
  | exc y ρ2 μ2 =>
    intro cls od H02 H2 mm2 ok2 nx2 ow2 xr
    exact en cls od H02 H2 mm2 ok2 (nx.trans ow nx2) (OwN.trans nx ow ow2) xr
  | ok y ρ2 μ2 =>
    intro v2 H02 H2 mm2 ok2 nx2 ow2 ho2 va2
    exact en v2 H02 H2 mm2 ok2 (nx.trans ow nx2) (OwN.trans nx ow ow2) (ho.trans ho2) (k.fr nx.back va2)
/-- going on, with what is on hand -/
theorem rk_go {f : A → EF α} {Z : Prop} (h : rk W k PA f σ H Q) (z : ∀ (G H0 : Hp) (mm : List Addr) (ρ : Env) (μ : Mu) (a : A), PA G H0 H mm ρ a → Ok S H0 H mm μ σ ρ → EndK W k H0 H mm σ ρ Q (f a ρ μ) → Z) : Z :=
  let ⟨_, _, _, _, _, _, _, _, a, ok, nx, ow, ho, pa, en⟩ := h
  z _ _ _ _ _ a pa ok (en.later nx ow ho)
/-- a reading may want less -/
theorem rd_mono {g : EF α} {Q' : β → Hp → Prop} (h : rdK W k g σ H Q) (q : ∀ v H', Q v H' → Q' v H') : rdK W k g σ H Q' := by
  obtain ⟨H0, mm, ρ, μ, ok, en⟩ := h
  refine ⟨H0, mm, ρ, μ, ok, ?_⟩
  revert en
  cases g ρ μ with
  | no => exact id
  | exc x ρ' μ' => exact id
  | ok x ρ' μ' => exact fun en v H0' H' mm' a b c d e => q _ _ (en v H0' H' mm' a b c d e)
end
theorem PE.weak {X : Cx} {e : Expr} {t u : TE} (h : PE X e t) (w : ∀ σ H Q, u σ H Q → t σ H Q) : PE X e u := ⟨fun pins s σ H Q I q => h.run pins s σ H Q I (w σ H Q q)⟩
theorem PT.weak {X : Cx} {e : Expr} {t u : TT} (h : PT X e t) (w : ∀ σ H Q, u σ H Q → t σ H Q) : PT X e u := ⟨fun pins s σ H Q I q => h.run pins s σ H Q I (w σ H Q q)⟩
theorem PS.weak {X : Cx} {e : Stmt} {t u : TS} (h : PS X e t) (w : ∀ D σ H, u D σ H → t D σ H) : PS X e u := ⟨fun pins s σ H D I q => h.run pins s σ H D I (w D σ H q)⟩
theorem PSs.weak {X : Cx} {e : List Stmt} {t u : TS} (h : PSs X e t) (w : ∀ D σ H, u D σ H → t D σ H) : PSs X e u := ⟨fun pins s σ H D I q => h.run pins s σ H D I (w D σ H q)⟩
end DL
set_option maxRecDepth 100000
set_option maxHeartbeats 1000000
/-! What a value reads as; new objects; the ends of small steps. -/
namespace DL
open PySem PySem.Spec L2 NdefX

/-- a changing object, as it is now -/
def seeM (k : Nat) : Option MO → D
  | some (.lst ds) => .lst ds
  | some (.ins C fs) => .obj C fs
  | none => .mrf k
def seeD (μ : Mu) : D → D
  | .mrf k => seeM k μ[k]?
  | d => d
/-- the datum of a value, in the slots -/
def con (μ : Mu) (ρ : Env) : Vl → Option D
  | .val d => some (seeD μ d)
  | .frs d => some d
  | .slt i => match ρ[i]? with
    | some (.ow d) => some d
    | some (.fz d) => some (seeD μ d)
    | _ => none
/-- v reads as d now -/
def Rdd (S : Sta) (H0 H : Hp) (mm : List Addr) (v : V) : D → Prop
  | .lst ds => ∃ a vs, v = .ref a ∧ H a = some (.lst vs) ∧ Dps S H0 mm vs ds
  | .dic ks vs => ∃ a kvs, v = .ref a ∧ H a = some (.dK kvs) ∧ Dps S H0 mm (kvs.map fun p => kV p.1) ks ∧ Dps S H0 mm (kvs.map (·.2)) vs
  | .obj C fs => ∃ a dx fvs, v = .ref a ∧ H a = some (.ins (He.ga S.K C) dx fvs) ∧ Dfs S H0 mm fvs fs
  | d => Dp S H0 mm v d
section
variable {S : Sta} {W : WX} {H0 H H0' H' : Hp} {mm mm' : List Addr} {μ μ' : Mu} {σ : St} {ρ ρ' : Env} {v : V} {d : D} {Q : VK} {p : Addr} {o : HO}
theorem Rdd.of (s : Sub H0 H) : ∀ {d : D}, Dp S H0 mm v d → Rdd S H0 H mm v d
  | .lst ds, ⟨a, vs, e, q, r⟩ => ⟨a, vs, e, s _ _ q, r⟩
  | .scr _, h => h
  | .tup _, h => h
  | .dic ks vs, ⟨a, kvs, e, q, r⟩ => ⟨a, kvs, e, s _ _ q, r⟩
  | .obj C fs, ⟨a, dx, fvs, e, q, r⟩ => ⟨a, dx, fvs, e, s _ _ q, r⟩
  | .non, h => h
  | .bl _, h => h
  | .int _, h => h
  | .str _, h => h
  | .mrf _, h => h
  | .glo _, h => h
  | .clo _ _, h => h
  | .ty _, h => h
theorem Rdd.ow {a : Addr} : ∀ {d : D}, OwOk S H0 H mm a d → Rdd S H0 H mm (.ref a) d
  | .lst ds, ⟨vs, q, r⟩ => ⟨a, vs, rfl, q, r⟩
  | .dic ks vs, ⟨kvs, q, r⟩ => ⟨a, kvs, rfl, q, r⟩
  | .obj C fs, ⟨dx, fvs, q, r⟩ => ⟨a, dx, fvs, rfl, q, r⟩
theorem Rdd.see (ok : Ok S H0 H mm μ σ ρ) (h : Rdd S H0 H mm v d) : Rdd S H0 H mm v (seeD μ d) := by
  cases d with
  | mrf k =>
    obtain ⟨a, e, rfl⟩ := id h
    show Rdd S H0 H mm (.ref a) (seeM k μ[k]?)
    cases q : μ[k]? with
    | none => exact h
    | some m =>
      have mo := ok.g.mu.at_ k a m e q
      cases m with
      | lst ds => obtain ⟨vs, z, r⟩ := mo; exact ⟨a, vs, rfl, z, r⟩
      | ins C fs => obtain ⟨dx, fvs, z, r⟩ := mo; exact ⟨a, dx, fvs, rfl, z, r⟩
  | _ => exact h
/-- a value on hand reads as its datum -/
theorem VlOk.rdd {G : Hp} (ok : Ok S H0 H mm μ σ ρ) : ∀ {x : Vl}, VlOk S G H0 H mm σ ρ v x → con μ ρ x = some d → Rdd S H0 H mm v d
  | .val e, h, q => by
    cases q
    exact Rdd.see ok (.of ok.g.sub h)
  | .frs e, ⟨a, ea, _, _, _, _, q⟩, h => by
    cases h
    subst ea
    exact .ow q
  | .slt i, ⟨e, s, es, hs⟩, h => by
    have so := ok.e.at_ i s es
    have h : (match ρ[i]? with
      | some (.ow d) => some d
      | some (.fz d) => some (seeD μ d)
      | _ => none) = some d := h
    rw [es] at h
    cases s with
    | un => cases h
    | fz d' =>
      have h : some (seeD μ d') = some d := h
      cases h
      obtain ⟨v', e', q⟩ := so
      rw [e] at e'
      cases e'
      exact Rdd.see ok (.of ok.g.sub q)
    | ow d' =>
      have h : some d' = some d := h
      cases h
      obtain ⟨a, e', _, _, q⟩ := so
      rw [e] at e'
      cases e'
      exact .ow q

/-! ### a new object -/
theorem Ok.ne (ok : Ok S H0 H mm μ σ ρ) (hp : H p = none) {a : Addr} (h : a ∈ mm) : a ≠ p := by
  obtain ⟨o, e, _⟩ := ok.g.mu.there h
  exact ne_of_none e hp
theorem MuOk.alloc (m : MuOk S H0 H mm μ) (hp : H p = none) (s : Sub H0 H0') (h0 : ∀ a ∈ mm, H0' a = none) : MuOk S H0' (upd H p o) mm μ :=
  ⟨m.len, m.nd, fun k a x e1 e2 => (m.at_ k a x e1 e2).mono s .refl (by
    obtain ⟨u, e, _⟩ := m.there (List.mem_of_getElem? e1)
    exact upd_ne (ne_of_none e hp)), h0⟩
theorem SlOk.alloc {x : Option (Option V)} (hp : H p = none) (s : Sub H0 H0') (h0 : ∀ a, H a ≠ none → H0 a = none → H0' a = none) : ∀ {sl : Sl}, SlOk S H0 H mm x sl → SlOk S H0' (upd H p o) mm x sl
  | .un, _ => trivial
  | .fz d, ⟨v, e, q⟩ => ⟨v, e, Dp.mono s .refl _ q⟩
  | .ow d, ⟨a, e, n0, nm, q⟩ => by
    obtain ⟨u, eu, _⟩ := q.there
    exact ⟨a, e, h0 a (by rw [eu]; simp) n0, nm, q.mono s .refl (upd_ne (ne_of_none eu hp))⟩
/-- made and frozen -/
theorem Ok.alloc (ok : Ok S H0 H mm μ σ ρ) (hp : H p = none) (ho : ∀ ps, o ≠ .tbl ps := by intro _ z; cases z) : Ok S (upd H0 p o) (upd H p o) mm μ σ ρ := by
  have hp0 : H0 p = none := by
    cases q : H0 p with
    | none => rfl
    | some u => rw [ok.g.sub _ _ q] at hp; cases hp
  have s0 : Sub H0 (upd H0 p o) := Sub.alloc hp0
  have h0 : ∀ a, H a ≠ none → H0 a = none → (upd H0 p o) a = none := fun a h e => by
    rw [upd_ne]
    · exact e
    · intro z; rw [z, hp] at h; exact h rfl
  refine ⟨⟨fun a u e => ?_, ok.g.mu.alloc hp s0 fun a ha => ?_, ok.g.tab.ext (Sub.alloc hp), fun b ps e => ?_⟩, ok.e.len, fun i s e => (ok.e.at_ i s e).alloc hp s0 h0, ok.e.sep⟩
  · by_cases h : a = p
    · rw [h, upd_same] at e
      rw [h, upd_same]
      exact e
    · rw [upd_ne h] at e
      rw [upd_ne h]
      exact ok.g.sub _ _ e
  · obtain ⟨u, e, _⟩ := ok.g.mu.there ha
    exact h0 a (by rw [e]; simp) (ok.g.mu.h0 a ha)
  · by_cases h : b = p
    · rw [h, upd_same] at e
      exact ho _ (Option.some.inj e)
    · rw [upd_ne h] at e
      exact ok.g.nt b ps e
/-- made, held alone -/
theorem Ok.made (ok : Ok S H0 H mm μ σ ρ) (hp : H p = none) : Ok S H0 (upd H p o) mm μ σ ρ :=
  ⟨⟨fun a u e => Sub.alloc hp _ _ (ok.g.sub _ _ e), ok.g.mu.alloc hp .refl ok.g.mu.h0, ok.g.tab.ext (Sub.alloc hp), ok.g.nt⟩, ok.e.len, fun i s e => (ok.e.at_ i s e).alloc hp .refl fun _ _ h => h, ok.e.sep⟩
theorem Nx.alloc {O : Addr → Prop} (s : Sub H0 H) (hp : H p = none) : Nx O H0 H mm (upd H0 p o) (upd H p o) mm := by
  have hp0 : H0 p = none := by
    cases q : H0 p with
    | none => rfl
    | some u => rw [s _ _ q] at hp; cases hp
  refine ⟨Sub.alloc hp0, fun a h _ => upd_ne fun z => by rw [z, hp] at h; exact h rfl, fun a u e _ _ _ => Sub.alloc hp _ _ e, fun a h => ?_, [], by simp, by simp⟩
  cases q : H a with
  | none => exact absurd q h
  | some u => rw [Sub.alloc hp _ _ q]; simp
theorem Nx.made {O : Addr → Prop} (hp : H p = none) : Nx O H0 H mm H0 (upd H p o) mm := by
  refine ⟨.refl, fun a h _ => rfl, fun a u e _ _ _ => Sub.alloc hp _ _ e, fun a h => ?_, [], by simp, by simp⟩
  cases q : H a with
  | none => exact absurd q h
  | some u => rw [Sub.alloc hp _ _ q]; simp
theorem Ok.own_there (ok : Ok S H0 H mm μ σ ρ) {a : Addr} (h : Own σ ρ a) : H a ≠ none := by
  obtain ⟨i, d, e1, e2⟩ := h
  obtain ⟨b, e3, _, _, q⟩ := ok.e.at_ i _ e1
  rw [e2] at e3
  cases e3
  obtain ⟨u, eu, _⟩ := q.there
  rw [eu]; simp

/-! ### ends -/
/-- an end is wanted, from a moment before -/
def Fin (S : Sta) (W : WX) (H0 H : Hp) (mm : List Addr) (σ : St) (ρ : Env) (Q : VK) (r : R Vl) : Prop := ∃ H0p Hp mmp ρp, Nx (Own σ ρp) H0p Hp mmp H0 H mm ∧ OwN Hp (Own σ ρp) (Own σ ρ) ∧ Hold ρp ρ ∧ EndV S W H0p Hp mmp σ ρp Q r
theorem Fin.no (h : Fin S W H0 H mm σ ρ Q .no) : False := let ⟨_, _, _, _, _, _, _, e⟩ := h; e
theorem fin_val (ok : Ok S H0 H mm μ σ ρ) (h : Fin S W H0 H mm σ ρ Q (.ok (.val d) ρ μ)) (q : Dp S H0 mm v d) : Q v H :=
  let ⟨_, _, _, _, n, w, k, en⟩ := h
  en v H0 H mm ok n w k q
theorem fin_frs {a : Addr} (ok : Ok S H0 H mm μ σ ρ) (h : Fin S W H0 H mm σ ρ Q (.ok (.frs d) ρ μ)) (hp : H p = none) (q : OwOk S H0 (upd H p o) mm p d) : Q (.ref p) (upd H p o) := by
  obtain ⟨H0p, Hp, mmp, ρp, n, w, k, en⟩ := h
  refine en _ H0 _ mm (ok.made hp) (n.trans w (Nx.made hp)) w k ⟨p, rfl, n.back p hp, ?_, fun z => ?_, fun z => ok.own_there z hp, q⟩
  · cases e : H0 p with
    | none => rfl
    | some u => rw [ok.g.sub _ _ e] at hp; cases hp
  · exact ok.ne hp z rfl
theorem fin_lst {ds : List D} {vs : List V} (ok : Ok S H0 H mm μ σ ρ) (h : Fin S W H0 H mm σ ρ Q (.ok (.frs (.lst ds)) ρ μ)) (q : Dps S H0 mm vs ds) (hp : H p = none) : Q (.ref p) (upd H p (.lst vs)) :=
  fin_frs (a := p) ok h hp ⟨vs, upd_same, q⟩
theorem fin_dic {ks ws : List D} {kvs : List (Key × V)} (ok : Ok S H0 H mm μ σ ρ) (h : Fin S W H0 H mm σ ρ Q (.ok (.frs (.dic ks ws)) ρ μ)) (q : Dps S H0 mm (kvs.map fun p => kV p.1) ks) (q2 : Dps S H0 mm (kvs.map (·.2)) ws) (hp : H p = none) : Q (.ref p) (upd H p (.dK kvs)) :=
  fin_frs (a := p) ok h hp ⟨kvs, upd_same, q, q2⟩
theorem fin_tup {ds : List D} {vs : List V} (ok : Ok S H0 H mm μ σ ρ) (h : Fin S W H0 H mm σ ρ Q (.ok (.val (.tup ds)) ρ μ)) (q : Dps S H0 mm vs ds) (hp : H p = none) : Q (.ref p) (upd H p (.tup vs)) := by
  obtain ⟨H0p, Hp, mmp, ρp, n, w, k, en⟩ := h
  have m : Nx (Own σ ρ) H0 H mm (upd H0 p (.tup vs)) (upd H p (.tup vs)) mm := Nx.alloc ok.g.sub hp
  exact en _ (upd H0 p (.tup vs)) _ mm (ok.alloc hp) (n.trans w m) w k ⟨p, vs, rfl, SqT.of upd_same, q.nx m⟩
end

/-! ### two operands -/
def g2 (h2 : D → D → EF Vl) (ga gb : EF Vl) : EF Vl := bnd ga fun x => bnd gb fun y => fun ρ μ => match con μ ρ x with
  | some a => (match con μ ρ y with
    | some b => h2 a b ρ μ
    | none => .no)
  | none => .no
def g1 (h1 : D → EF Vl) (ga : EF Vl) : EF Vl := bnd ga fun x => fun ρ μ => match con μ ρ x with
  | some a => h1 a ρ μ
  | none => .no
/-- what an operator by values asks, told of data -/
def K2 (S : Sta) (W : WX) (r : R2) (h2 : D → D → EF Vl) : Prop := ∀ (x y : V) (dx dy : D) (H0 H : Hp) (mm : List Addr) (μ : Mu) (σ : St) (ρ : Env) (Q : VK),
  Ok S H0 H mm μ σ ρ → Rdd S H0 H mm x dx → Rdd S H0 H mm y dy → Fin S W H0 H mm σ ρ Q (h2 dx dy ρ μ) → r x y H Q
def K1 (S : Sta) (W : WX) (r : V → Hp → VK → Prop) (h1 : D → EF Vl) : Prop := ∀ (x : V) (dx : D) (H0 H : Hp) (mm : List Addr) (μ : Mu) (σ : St) (ρ : Env) (Q : VK),
  Ok S H0 H mm μ σ ρ → Rdd S H0 H mm x dx → Fin S W H0 H mm σ ρ Q (h1 dx ρ μ) → r x H Q
section
variable {S : Sta} {W : WX} {X : Cx} {a b : Expr} {ga gb : EF Vl} {r : R2} {h2 : D → D → EF Vl} {pos : Pos} {σ : St} {H : Hp} {Q : VK}
theorem t_two (k : K2 S W r h2) (h : rd S W (g2 h2 ga gb) σ H Q) : tOp r (rd S W ga) (rd S W gb) σ H Q := by
  refine rd_mono (rk_push (k := knV S) stay0 (rk_start h)) fun v H1 h1 => rd_mono (rk_push (k := knV S) (stayV stay0) h1) fun w H2 h2 => ?_
  obtain ⟨H0p, Hp, mmp, ρp, H0, mm, ρ, μ, ⟨⟨_, x⟩, y⟩, ok, nx, ow, ho, ⟨⟨_, vx⟩, vy⟩, en⟩ := h2
  have vx : VlOk S Hp H0 H2 mm σ ρ v x := vx
  have vy : VlOk S Hp H0 H2 mm σ ρ w y := vy
  replace en : Fin S W H0 H2 mm σ ρ Q (match con μ ρ x with
    | some a => (match con μ ρ y with
      | some b => _
      | none => .no)
    | none => .no) := ⟨H0p, Hp, mmp, ρp, nx, ow, ho, en⟩
  cases c2 : con μ ρ x with
  | none => rw [c2] at en; exact en.no.elim
  | some d2 =>
    cases c1 : con μ ρ y with
    | none => rw [c2, c1] at en; exact en.no.elim
    | some d1 =>
      rw [c2, c1] at en
      exact k v w d2 d1 H0 H2 mm μ σ ρ Q ok (vx.rdd ok c2) (vy.rdd ok c1) en
theorem t_one {r1 : V → Hp → VK → Prop} {h1 : D → EF Vl} (k : K1 S W r1 h1) (h : rd S W (g1 h1 ga) σ H Q) : rd S W ga σ H fun x H1 => r1 x H1 Q := by
  refine rd_mono (rk_push (k := knV S) stay0 (rk_start h)) fun v H1 h1 => ?_
  obtain ⟨H0p, Hp, mmp, ρp, H0, mm, ρ, μ, ⟨_, x⟩, ok, nx, ow, ho, ⟨_, vx⟩, en⟩ := h1
  have vx : VlOk S Hp H0 H1 mm σ ρ v x := vx
  replace en : Fin S W H0 H1 mm σ ρ Q (match con μ ρ x with
    | some a => _
    | none => .no) := ⟨H0p, Hp, mmp, ρp, nx, ow, ho, en⟩
  cases c1 : con μ ρ x with
  | none => rw [c1] at en; exact en.no.elim
  | some d1 =>
    rw [c1] at en
    exact k v d1 H0 H1 mm μ σ ρ Q ok (vx.rdd ok c1) en
theorem K2.or {r' : R2} {h2' : D → D → EF Vl} {c : D → D → Bool} (k : K2 S W r h2) (k' : K2 S W r' h2') : K2 S W (fun x y H Q => r x y H Q ∨ r' x y H Q) (fun a b => if c a b = true then h2 a b else h2' a b) := fun x y dx dy H0 H mm μ σ ρ Q ok rx ry en => by
  replace en : Fin S W H0 H mm σ ρ Q ((if c dx dy = true then h2 dx dy else h2' dx dy) ρ μ) := en
  by_cases h : c dx dy = true
  · rw [if_pos h] at en
    exact .inl (k x y dx dy H0 H mm μ σ ρ Q ok rx ry en)
  · rw [if_neg h] at en
    exact .inr (k' x y dx dy H0 H mm μ σ ρ Q ok rx ry en)
theorem e_op {op : Operator} (ho : OpR X (binaryOp op) r) (k : K2 S W r h2) (ha : PE X a (rd S W ga)) (hb : PE X b (rd S W gb)) : PE X (.BinOp a op b pos) (rd S W (g2 h2 ga gb)) :=
  PE.weak (pe_op ho ha hb) fun _ _ _ => t_two k
theorem e_cmp {op : CmpOp} (ho : OpR X (compareOp op) r) (k : K2 S W r h2) (ha : PE X a (rd S W ga)) (hb : PE X b (rd S W gb)) (hm : behindInMarks op b = false) : PE X (.Compare a [op] [b] pos) (rd S W (g2 h2 ga gb)) :=
  PE.weak (pe_cmpR ho ha hb hm) fun _ _ _ => t_two k
theorem e_un {op : UnaryOp} {r1 : V → Hp → VK → Prop} {h1 : D → EF Vl} (ho : UnR X (unaryOp op) r1) (k : K1 S W r1 h1) (ha : PE X a (rd S W ga)) : PE X (.UnaryOp op a pos) (rd S W (g1 h1 ga)) :=
  PE.weak (pe_un ho ha) fun _ _ _ => t_one k
end
end DL
set_option maxRecDepth 100000
set_option maxHeartbeats 1000000
/-! Names, constants, freezing, tests, displays. -/
namespace DL
open PySem PySem.Spec L2 NdefX

/-! ### names and constants -/
def gName (i : Nat) : EF Vl := fun ρ μ => match ρ[i]? with
  | some (.fz d) => .ok (.val d) ρ μ
  | some (.ow _) => .ok (.slt i) ρ μ
  | _ => .no
def gC (d : D) : EF Vl := fun ρ μ => .ok (.val d) ρ μ
section
variable {S : Sta} {W : WX} {X : Cx} {pos : Pos} {x : Str} {σ : St} {H : Hp} {Q : VK}
theorem EndV.fin {H0 H1 : Hp} {mm : List Addr} {ρ : Env} {r : R Vl} (h : EndV S W H0 H1 mm σ ρ Q r) : Fin S W H0 H1 mm σ ρ Q r := ⟨_, _, _, _, .refl, .refl, .refl, h⟩
theorem e_name {i : Nat} (hN : X.N[i]? = some x) (hv : Vis X.env.scope x) (hd : (x == ("__debug__" : Str)) = false := by decide) (hcd : (x == ("__classdict__" : Str)) = false := by decide) : PE X (.Name x pos) (rd S W (gName i)) := by
  refine PE.weak (pe_var (i := i) hN hv hd hcd) fun σ H Q h => ?_
  obtain ⟨H0, mm, ρ, μ, ok, en⟩ := h
  unfold gName at en
  cases e : ρ[i]? with
  | none => rw [e] at en; exact en.elim
  | some s =>
    rw [e] at en
    have so := ok.e.at_ i s e
    cases s with
    | un => exact en.elim
    | fz d =>
      obtain ⟨v, ev, q⟩ := so
      exact ⟨v, ev, fin_val ok (EndV.fin en) q⟩
    | ow d =>
      obtain ⟨a, ev, q⟩ := so
      exact ⟨_, ev, en _ H0 H mm ok .refl .refl .refl ⟨ev, _, e, fun z => by cases z⟩⟩
theorem e_tC {e : Expr} {v : V} {d : D} (h : PE X e (tC v)) (q : ∀ H0 mm, Dp S H0 mm v d) : PE X e (rd S W (gC d)) := by
  refine PE.weak h fun σ H Q h => ?_
  obtain ⟨H0, mm, ρ, μ, ok, en⟩ := h
  exact fin_val ok (EndV.fin en) (q H0 mm)
theorem e_int {i j} : PE X (.Constant (.int i) j pos) (rd S W (gC (.int i))) := e_tC pe_int fun _ _ => rfl
theorem e_bl {b j} : PE X (.Constant (.bool b) j pos) (rd S W (gC (.bl b))) := e_tC pe_bl fun _ _ => rfl
theorem e_non {j} : PE X (.Constant .none j pos) (rd S W (gC .non)) := e_tC pe_non fun _ _ => rfl
theorem e_str {z : Str} {j} : PE X (.Constant (.str z) j pos) (rd S W (gC (.str z))) := e_tC pe_str fun _ _ => rfl
/-- a module's name x stands for the datum d -/
def Cst (S : Sta) (mg : Str → Option Value) (x : Str) (d : D) : Prop := ∃ v u, mg x = some u ∧ RelV v u ∧ ∀ H0 mm, Dp S H0 mm v d
theorem e_glob {d : D} (hg : Gl X x) (c : Cst S X.mg x d) (hd : (x == ("__debug__" : Str)) = false := by decide) : PE X (.Name x pos) (rd S W (gC d)) := by
  obtain ⟨v, u, hm, r, q⟩ := c
  exact e_tC (pe_glob hg hm r hd) q
end

/-! ### freezing -/
section
variable {S : Sta} {W : WX} {H0 H H0' H' : Hp} {mm mm' : List Addr} {μ μ' : Mu} {σ : St} {ρ ρ' : Env} {v : V} {d : D} {Q : VK} {a : Addr}
/-- what stands alone stands as a datum from now on -/
theorem OwOk.dp {K0 : Hp} (s : Sub H0 K0) (e : K0 a = H a) : ∀ {d : D}, OwOk S H0 H mm a d → Dp S K0 mm (.ref a) d
  | .lst _, ⟨vs, h, t⟩ => ⟨a, vs, rfl, e.trans h, Dps.mono s .refl _ t⟩
  | .dic _ _, ⟨kvs, h, t, r⟩ => ⟨a, kvs, rfl, e.trans h, Dps.mono s .refl _ t, Dps.mono s .refl _ r⟩
  | .obj _ _, ⟨dx, fvs, h, t⟩ => ⟨a, dx, fvs, rfl, e.trans h, Dfs.mono s .refl _ t⟩
/-- H0 and what stands at a -/
def frz (H0 H : Hp) (a : Addr) : Hp := fun b => if b = a then H a else H0 b
theorem frz_at : frz H0 H a a = H a := if_pos rfl
theorem frz_ne {b : Addr} (h : b ≠ a) : frz H0 H a b = H0 b := if_neg h
theorem frz_sub (h : H0 a = none) : Sub H0 (frz H0 H a) := fun b o e => by
  rw [frz_ne]
  · exact e
  · intro z; rw [z, h] at e; cases e
theorem Glo.frz (g : Glo S H0 H mm μ) (h0 : H0 a = none) (hm : a ∉ mm) (ht : ∀ ps, H a ≠ some (.tbl ps)) : Glo S (frz H0 H a) H mm μ := by
  refine ⟨fun b o e => ?_, ⟨g.mu.len, g.mu.nd, fun k b m e1 e2 => (g.mu.at_ k b m e1 e2).mono (frz_sub h0) .refl rfl, fun b hb => ?_⟩, g.tab, fun b ps e => ?_⟩
  · by_cases h : b = a
    · rw [h, frz_at] at e
      rw [h]
      exact e
    · rw [frz_ne h] at e
      exact g.sub _ _ e
  · rw [frz_ne fun z => hm (by rw [← z]; exact hb)]
    exact g.mu.h0 b hb
  · by_cases h : b = a
    · rw [h, frz_at] at e
      exact ht ps e
    · rw [frz_ne h] at e
      exact g.nt b ps e
theorem Ok.frz_frs (ok : Ok S H0 H mm μ σ ρ) (h0 : H0 a = none) (hm : a ∉ mm) (no : ¬ Own σ ρ a) (ht : ∀ ps, H a ≠ some (.tbl ps)) : Ok S (frz H0 H a) H mm μ σ ρ := by
  refine ⟨ok.g.frz h0 hm ht, ok.e.len, fun i s e => ?_, ok.e.sep⟩
  have q := ok.e.at_ i s e
  cases s with
  | un => trivial
  | fz d =>
    obtain ⟨v, ev, q⟩ := q
    exact ⟨v, ev, Dp.mono (frz_sub h0) .refl _ q⟩
  | ow d =>
    obtain ⟨b, ev, n0, nm, q⟩ := q
    refine ⟨b, ev, ?_, nm, q.mono (frz_sub h0) .refl rfl⟩
    rw [frz_ne]
    · exact n0
    · intro z
      exact no ⟨i, d, e, by rw [← z]; exact ev⟩
theorem own_set_fz {i : Nat} {b : Addr} (h : Own σ (ρ.set i (.fz d)) b) : Own σ ρ b := by
  obtain ⟨j, d', e1, e2⟩ := h
  by_cases hj : i = j
  · subst hj
    by_cases hl : i < ρ.length
    · rw [List.getElem?_set_self hl] at e1; cases e1
    · rw [List.getElem?_eq_none (by rw [List.length_set]; omega)] at e1; cases e1
  · rw [List.getElem?_set_ne hj] at e1
    exact ⟨j, d', e1, e2⟩
theorem Ok.frz_slt (ok : Ok S H0 H mm μ σ ρ) {i : Nat} (e : ρ[i]? = some (.ow d)) (es : σ[i]? = some (some (.ref a))) : Ok S (frz H0 H a) H mm μ σ (ρ.set i (.fz d)) := by
  obtain ⟨b, ev, n0, nm, q⟩ := ok.e.at_ i _ e
  rw [es] at ev
  cases ev
  refine ⟨ok.g.frz n0 nm (fun ps z => let ⟨o, eo, nt⟩ := q.there; nt ps (by rw [z] at eo; exact (Option.some.inj eo).symm)), by rw [List.length_set]; exact ok.e.len, fun j s ej => ?_, fun j k b d1 d2 hjk e1 e2 f1 f2 => ?_⟩
  · by_cases hj : i = j
    · subst hj
      rw [List.getElem?_set_self (List.getElem?_eq_some_iff.mp e).1] at ej
      cases ej
      exact ⟨_, es, q.dp (frz_sub n0) frz_at⟩
    · rw [List.getElem?_set_ne hj] at ej
      have q2 := ok.e.at_ j s ej
      cases s with
      | un => trivial
      | fz d2 =>
        obtain ⟨v, ev, q2⟩ := q2
        exact ⟨v, ev, Dp.mono (frz_sub n0) .refl _ q2⟩
      | ow d2 =>
        obtain ⟨b, ev, m0, nm2, q2⟩ := q2
        refine ⟨b, ev, ?_, nm2, q2.mono (frz_sub n0) .refl rfl⟩
        rw [frz_ne]
        · exact m0
        · intro z
          exact ok.e.sep i j a d d2 hj e ej es (by rw [← z]; exact ev)
  · have h1 : ∀ {j : Nat} {d' : D}, (ρ.set i (.fz d))[j]? = some (.ow d') → ρ[j]? = some (.ow d') := fun {j d'} z => by
      by_cases hj : i = j
      · subst hj
        rw [List.getElem?_set_self (List.getElem?_eq_some_iff.mp e).1] at z
        cases z
      · rw [List.getElem?_set_ne hj] at z
        exact z
    exact ok.e.sep j k b d1 d2 hjk (h1 e1) (h1 e2) f1 f2
theorem hold_set {i : Nat} {s : Sl} (h : s = .un → False) : Hold ρ (ρ.set i s) := fun j t e ht => by
  by_cases hj : i = j
  · subst hj
    exact ⟨s, List.getElem?_set_self (List.getElem?_eq_some_iff.mp e).1, h⟩
  · exact ⟨t, by rw [List.getElem?_set_ne hj]; exact e, ht⟩
end
def frzA (i : Nat) (ρ : Env) (μ : Mu) : Option Sl → R Vl
  | some (.ow d) => .ok (.val d) (ρ.set i (.fz d)) μ
  | some (.fz d) => .ok (.val d) ρ μ
  | _ => .no
def frzV : Vl → EF Vl
  | .val d, ρ, μ => .ok (.val d) ρ μ
  | .frs d, ρ, μ => .ok (.val d) ρ μ
  | .slt i, ρ, μ => frzA i ρ μ ρ[i]?
def gFrz (g : EF Vl) : EF Vl := bnd g frzV
section
variable {S : Sta} {W : WX} {X : Cx} {σ : St} {H : Hp} {Q : VK} {e : Expr} {g : EF Vl}
/-- a value on hand, frozen: the state goes on -/
theorem frz_go {H0 H : Hp} {mm : List Addr} {μ : Mu} {σ : St} {ρ ρp : Env} {H0p Hp : Hp} {mmp : List Addr} {v : V} {x : Vl} {d : D} {ρ' : Env} {μ' : Mu} (ok : Ok S H0 H mm μ σ ρ) (nx : Nx (Own σ ρp) H0p Hp mmp H0 H mm) (ow : OwN Hp (Own σ ρp) (Own σ ρ)) (ho : Hold ρp ρ)
    (va : VlOk S Hp H0 H mm σ ρ v x) (e : frzV x ρ μ = .ok (.val d) ρ' μ') :
    ∃ H0', Ok S H0' H mm μ' σ ρ' ∧ Nx (Own σ ρp) H0p Hp mmp H0' H mm ∧ OwN Hp (Own σ ρp) (Own σ ρ') ∧ Hold ρp ρ' ∧ Dp S H0' mm v d := by
  cases x with
  | val d' =>
    cases e
    exact ⟨H0, ok, nx, ow, ho, va⟩
  | frs d' =>
    cases e
    obtain ⟨a, rfl, hg, h0, hm, no, q⟩ := va
    obtain ⟨o, eo, nt⟩ := q.there
    refine ⟨frz H0 H a, ok.frz_frs h0 hm no (fun ps z => nt ps (by rw [z] at eo; exact (Option.some.inj eo).symm)), ⟨nx.old0.trans (frz_sub h0), fun b hb nb => ?_, nx.keep, nx.grow, nx.mmx⟩, ow, ho, q.dp (frz_sub h0) frz_at⟩
    rw [frz_ne fun z => by rw [z] at hb; exact hb hg]
    exact nx.new0 b hb nb
  | slt i =>
    obtain ⟨es, s, e1, e2⟩ := va
    replace e : frzA i ρ μ ρ[i]? = .ok (.val d) ρ' μ' := e
    rw [e1] at e
    have so := ok.e.at_ i s e1
    cases s with
    | un => cases e
    | fz d' =>
      cases e
      obtain ⟨v', ev, q⟩ := so
      rw [es] at ev
      cases ev
      exact ⟨H0, ok, nx, ow, ho, q⟩
    | ow d' =>
      cases e
      obtain ⟨a, ev, n0, nm, q⟩ := so
      rw [es] at ev
      cases ev
      refine ⟨frz H0 H a, ok.frz_slt e1 es, ⟨nx.old0.trans (frz_sub n0), fun b hb nb => ?_, nx.keep, nx.grow, nx.mmx⟩, fun b hb => ow b (own_set_fz hb), ho.trans (hold_set fun z => by cases z), q.dp (frz_sub n0) frz_at⟩
      rw [frz_ne fun z => ?_]
      · exact nx.new0 b hb nb
      · rcases ow a ⟨i, d, e1, es⟩ with y | y
        · rw [z] at nb; exact nb y
        · rw [z] at hb; exact hb y
theorem frzV_val {x y : Vl} {ρ ρ' : Env} {μ μ' : Mu} (e : frzV x ρ μ = .ok y ρ' μ') : ∃ d, y = .val d := by
  cases x with
  | val d => cases e; exact ⟨_, rfl⟩
  | frs d => cases e; exact ⟨_, rfl⟩
  | slt i =>
    replace e : frzA i ρ μ ρ[i]? = .ok y ρ' μ' := e
    unfold frzA at e
    split at e <;> cases e <;> exact ⟨_, rfl⟩
theorem frzV_exc {x : Vl} {y : Exn} {ρ ρ' : Env} {μ μ' : Mu} : frzV x ρ μ = .exc y ρ' μ' → False := fun e => by
  cases x with
  | val d => cases e
  | frs d => cases e
  | slt i =>
    replace e : frzA i ρ μ ρ[i]? = .exc y ρ' μ' := e
    unfold frzA at e
    split at e <;> cases e
theorem e_frz (h : PE X e (rd S W g)) : PE X e (rd S W (gFrz g)) := by
  refine PE.weak h fun σ H Q h => ?_
  refine rd_mono (rk_push (k := knV S) stay0 (rk_start h)) fun v H1 h1 => ?_
  obtain ⟨H0p, Hp, mmp, ρp, H0, mm, ρ, μ, ⟨_, x⟩, ok, nx, ow, ho, ⟨_, vx⟩, en⟩ := h1
  have vx : VlOk S Hp H0 H1 mm σ ρ v x := vx
  replace en : EndV S W H0p Hp mmp σ ρp Q (frzV x ρ μ) := en
  cases q : frzV x ρ μ with
  | no => rw [q] at en; exact en.elim
  | exc y ρ' μ' => exact (frzV_exc q).elim
  | ok y ρ' μ' =>
    obtain ⟨d, rfl⟩ := frzV_val q
    rw [q] at en
    obtain ⟨H0', ok', nx', ow', ho', dp⟩ := frz_go ok nx ow ho vx q
    exact en v H0' H1 mm ok' nx' ow' ho' dp
end
end DL
set_option maxRecDepth 100000
set_option maxHeartbeats 1000000
/-! Tests, and, or, not, one if another, chains; argument lists, displays. -/
namespace DL
open PySem PySem.Spec L2 NdefX

def asB : Option D → EF Bool
  | some (.bl b), ρ, μ => .ok b ρ μ
  | _, _, _ => .no
def gB (g : EF Vl) : EF Bool := bnd g fun x ρ μ => asB (con μ ρ x) ρ μ
def gAnd (a b : EF Bool) : EF Bool := bnd a fun c => match c with
  | true => b
  | false => ret false
def gOr (a b : EF Bool) : EF Bool := bnd a fun c => match c with
  | true => ret true
  | false => b
def gNot (a : EF Bool) : EF Bool := bnd a fun c => ret (!c)
def gBV (a : EF Bool) : EF Vl := bnd a fun c => ret (.val (.bl c))
def gIf {α : Type} (t : EF Bool) (a b : EF α) : EF α := bnd t fun c => match c with
  | true => a
  | false => b
section
variable {S : Sta} {W : WX} {X : Cx} {pos : Pos} {σ : St} {H : Hp} {e a b c : Expr} {g ga gb : EF Vl} {ta tb tc : EF Bool} {rest : List Expr}
theorem asB_some {o : Option D} {ρ ρ' : Env} {μ μ' : Mu} {k : Bool} (h : asB o ρ μ = .ok k ρ' μ') : o = some (.bl k) ∧ ρ' = ρ ∧ μ' = μ := by
  cases o with
  | none => cases h
  | some d => cases d <;> cases h <;> exact ⟨rfl, rfl, rfl⟩
theorem asB_exc {o : Option D} {ρ ρ' : Env} {μ μ' : Mu} {k : Exn} (h : asB o ρ μ = .exc k ρ' μ') : False := by
  cases o with
  | none => cases h
  | some d => cases d <;> cases h
theorem t_asB {Q : Bool → Hp → Prop} (h : rt S W (gB g) σ H Q) : rd S W g σ H fun x H1 => ∃ k, x = .bl k ∧ Q k H1 := by
  refine rd_mono (rk_push (k := knV S) stay0 (rk_start h)) fun v H1 h1 => rk_go h1 fun G H0 mm ρ μ a pa ok en => ?_
  have vx : VlOk S G H0 H1 mm σ ρ v a.2 := pa.2
  replace en : EndK W (knB S) H0 H1 mm σ ρ Q (asB (con μ ρ a.2) ρ μ) := en
  cases q : asB (con μ ρ a.2) ρ μ with
  | no => rw [q] at en; exact en.elim
  | exc x ρ' μ' => exact (asB_exc q).elim
  | ok k ρ' μ' =>
    obtain ⟨e1, rfl, rfl⟩ := asB_some q
    rw [q] at en
    exact ⟨k, vx.rdd ok e1, en k H0 H1 mm ok .refl .refl .refl rfl⟩
/-- an expression that is a truth, as a test -/
theorem t_val (h : PE X e (rd S W g)) (he : ∀ whole, isTrue e X.env whole = (do let v ← whole; standAt e.pos; holding [v] (truthy v)) := by intro _; rfl) : PT X e (rt S W (gB g)) :=
  PT.weak (pt_val h he) fun _ _ _ => t_asB
/-- a comparison as a test -/
theorem t_cmp {op : CmpOp} {r : R2} {h2 : D → D → EF Vl} (ho : OpR X (compareOp op) r) (k : K2 S W r h2) (ha : PE X a (rd S W ga)) (hb : PE X b (rd S W gb)) (hm : behindInMarks op b = false) : PT X (.Compare a [op] [b] pos) (rt S W (gB (g2 h2 ga gb))) :=
  PT.weak (pt_cmpR ho ha hb hm) fun σ H Q h => t_two k (t_asB h)
theorem w_one_and (ha : PT X a (rt S W ta)) : PW X (.BoolOp .And [a] pos) (rt S W ta) := pw_and1 ha
theorem w_one_or (ha : PT X a (rt S W ta)) : PW X (.BoolOp .Or [a] pos) (rt S W ta) := pw_or1 ha
theorem PW.weak {t u : TT} (h : PW X e t) (w : ∀ σ H Q, u σ H Q → t σ H Q) : PW X e u := ⟨fun wh pins s σ H Q I q => h.run wh pins s σ H Q I (w σ H Q q)⟩
theorem w_and (ha : PT X a (rt S W ta)) (hb : PW X (.BoolOp .And (b :: rest) pos) (rt S W tb)) : PW X (.BoolOp .And (a :: b :: rest) pos) (rt S W (gAnd ta tb)) := by
  refine PW.weak (pw_and ha hb) fun σ H Q h => ?_
  refine rd_mono (rk_push (k := knB S) stay0 (rk_start h)) fun v H1 h1 => rk_go h1 fun G H0 mm ρ μ a pa ok en => ?_
  obtain ⟨_, x⟩ := a
  obtain rfl : v = x := pa.2
  cases v with
  | true => exact ⟨H0, mm, ρ, μ, ok, en⟩
  | false => exact en false H0 H1 mm ok .refl .refl .refl rfl
theorem w_or (ha : PT X a (rt S W ta)) (hb : PW X (.BoolOp .Or (b :: rest) pos) (rt S W tb)) : PW X (.BoolOp .Or (a :: b :: rest) pos) (rt S W (gOr ta tb)) := by
  refine PW.weak (pw_or ha hb) fun σ H Q h => ?_
  refine rd_mono (rk_push (k := knB S) stay0 (rk_start h)) fun v H1 h1 => rk_go h1 fun G H0 mm ρ μ a pa ok en => ?_
  obtain ⟨_, x⟩ := a
  obtain rfl : v = x := pa.2
  cases v with
  | false => exact ⟨H0, mm, ρ, μ, ok, en⟩
  | true => exact en true H0 H1 mm ok .refl .refl .refl rfl
theorem t_not (ha : PT X a (rt S W ta)) : PT X (.UnaryOp .Not a pos) (rt S W (gNot ta)) := by
  refine PT.weak (pt_not ha) fun σ H Q h => ?_
  refine rd_mono (rk_push (k := knB S) stay0 (rk_start h)) fun v H1 h1 => rk_go h1 fun G H0 mm ρ μ a pa ok en => ?_
  obtain ⟨_, x⟩ := a
  obtain rfl : v = x := pa.2
  exact en (!v) H0 H1 mm ok .refl .refl .refl rfl
/-- the same as values -/
theorem e_one {op} (ha : PE X a (rd S W ga)) : PE X (.BoolOp op [a] pos) (rd S W (gBV (gB ga))) := by
  refine PE.weak (pe_one ha) fun σ H Q h => ?_
  have h2 := rk_push (k := knB S) stay0 (rk_start h)
  refine rd_mono (t_asB h2) fun v H1 q => ?_
  obtain ⟨k, rfl, q⟩ := q
  refine rk_go q fun G H0 mm ρ μ a pa ok en => ?_
  obtain ⟨_, x⟩ := a
  obtain rfl : k = x := pa.2
  exact fin_val ok (EndV.fin en) rfl
theorem e_and (ha : PE X a (rd S W ga)) (hb : PE X (.BoolOp .And (b :: rest) pos) (rd S W (gBV tb))) : PE X (.BoolOp .And (a :: b :: rest) pos) (rd S W (gBV (gAnd (gB ga) tb))) := by
  refine PE.weak (pe_and ha hb) fun σ H Q h => ?_
  have e : gBV (gAnd (gB ga) tb) = bnd (gB ga) fun c => match c with
    | true => gBV tb
    | false => ret (.val (.bl false)) := by
    funext ρ μ
    unfold gBV gAnd bnd
    cases gB ga ρ μ with
    | no => rfl
    | exc x ρ' μ' => rfl
    | ok k ρ' μ' => cases k <;> rfl
  rw [e] at h
  have h2 := rk_push (k := knB S) stay0 (rk_start h)
  refine rd_mono (t_asB h2) fun v H1 q => ?_
  obtain ⟨k, rfl, q⟩ := q
  refine ⟨k, rfl, rk_go q fun G H0 mm ρ μ a pa ok en => ?_⟩
  obtain ⟨_, x⟩ := a
  obtain rfl : k = x := pa.2
  cases k with
  | true => exact ⟨H0, mm, ρ, μ, ok, en⟩
  | false => exact fin_val ok (EndV.fin en) rfl
theorem e_or (ha : PE X a (rd S W ga)) (hb : PE X (.BoolOp .Or (b :: rest) pos) (rd S W (gBV tb))) : PE X (.BoolOp .Or (a :: b :: rest) pos) (rd S W (gBV (gOr (gB ga) tb))) := by
  refine PE.weak (pe_or ha hb) fun σ H Q h => ?_
  have e : gBV (gOr (gB ga) tb) = bnd (gB ga) fun c => match c with
    | true => ret (.val (.bl true))
    | false => gBV tb := by
    funext ρ μ
    unfold gBV gOr bnd
    cases gB ga ρ μ with
    | no => rfl
    | exc x ρ' μ' => rfl
    | ok k ρ' μ' => cases k <;> rfl
  rw [e] at h
  have h2 := rk_push (k := knB S) stay0 (rk_start h)
  refine rd_mono (t_asB h2) fun v H1 q => ?_
  obtain ⟨k, rfl, q⟩ := q
  refine ⟨k, rfl, rk_go q fun G H0 mm ρ μ a pa ok en => ?_⟩
  obtain ⟨_, x⟩ := a
  obtain rfl : k = x := pa.2
  cases k with
  | false => exact ⟨H0, mm, ρ, μ, ok, en⟩
  | true => exact fin_val ok (EndV.fin en) rfl
theorem e_not (ha : PE X a (rd S W ga)) : PE X (.UnaryOp .Not a pos) (rd S W (gBV (gNot (gB ga)))) := by
  refine PE.weak (pe_not ha) fun σ H Q h => ?_
  have e : gBV (gNot (gB ga)) = bnd (gB ga) fun c => ret (.val (.bl (!c))) := by
    funext ρ μ
    unfold gBV gNot bnd
    cases gB ga ρ μ <;> rfl
  rw [e] at h
  have h2 := rk_push (k := knB S) stay0 (rk_start h)
  refine rd_mono (t_asB h2) fun v H1 q => ?_
  obtain ⟨k, rfl, q⟩ := q
  refine ⟨k, rfl, rk_go q fun G H0 mm ρ μ a pa ok en => ?_⟩
  obtain ⟨_, x⟩ := a
  obtain rfl : k = x := pa.2
  exact fin_val ok (EndV.fin en) rfl
/-- a if t else b -/
theorem e_if (hc : PT X c (rt S W tc)) (ha : PE X a (rd S W ga)) (hb : PE X b (rd S W gb)) : PE X (.IfExp c a b pos) (rd S W (gIf tc ga gb)) := by
  refine PE.weak (pe_ifExp hc ha hb) fun σ H Q h => ?_
  refine rd_mono (rk_push (k := knB S) stay0 (rk_start h)) fun v H1 h1 => rk_go h1 fun G H0 mm ρ μ a pa ok en => ?_
  obtain ⟨_, x⟩ := a
  obtain rfl : v = x := pa.2
  cases v with
  | true => exact ⟨H0, mm, ρ, μ, ok, en⟩
  | false => exact ⟨H0, mm, ρ, μ, ok, en⟩
/-- a < b < c -/
def gCh (h h' : D → D → EF Vl) (ga gb gc : EF Vl) : EF Vl := bnd ga fun x => bnd gb fun y => bnd (gB (g2 h (ret x) (ret y))) fun k => match k with
  | true => g2 h' (ret y) gc
  | false => ret (.val (.bl false))
/-- what a comparison of data tells: a truth, nothing changes -/
def Cm (h : D → D → EF Vl) : Prop := ∀ a b ρ μ, h a b ρ μ = .no ∨ ∃ k, h a b ρ μ = .ok (.val (.bl k)) ρ μ
theorem t_chn {r r' : R2} {h h' : D → D → EF Vl} {gc : EF Vl} {Q : VK} (k : K2 S W r h) (k' : K2 S W r' h') (cm : Cm h) (hh : rd S W (gCh h h' ga gb gc) σ H Q) : tChain r r' (rd S W ga) (rd S W gb) (rd S W gc) σ H Q := by
  refine rd_mono (rk_push (k := knV S) stay0 (rk_start hh)) fun v H1 h1 => rd_mono (rk_push (k := knV S) (stayV stay0) h1) fun w H2 h2 => ?_
  obtain ⟨H0p, Hp, mmp, ρp, H0, mm, ρ, μ, ⟨⟨_, x⟩, y⟩, ok, nx, ow, ho, ⟨⟨_, vx⟩, vy⟩, en⟩ := h2
  have vx : VlOk S Hp H0 H2 mm σ ρ v x := vx
  have vy : VlOk S Hp H0 H2 mm σ ρ w y := vy
  have en : EndV S W H0p Hp mmp σ ρp Q (bnd (gB (g2 h (ret x) (ret y))) (fun k => match k with
    | true => g2 h' (ret y) gc
    | false => ret (.val (.bl false))) ρ μ) := en
  cases c2 : con μ ρ x with
  | none =>
    have z : gB (g2 h (ret x) (ret y)) ρ μ = .no := by
      unfold gB g2 bnd ret
      simp only [c2]
    unfold bnd at en
    rw [z] at en
    exact en.elim
  | some d2 =>
    cases c1 : con μ ρ y with
    | none =>
      have z : gB (g2 h (ret x) (ret y)) ρ μ = .no := by
        unfold gB g2 bnd ret
        simp only [c2, c1]
      unfold bnd at en
      rw [z] at en
      exact en.elim
    | some d1 =>
      rcases cm d2 d1 ρ μ with z | ⟨kk, z⟩
      · have z2 : gB (g2 h (ret x) (ret y)) ρ μ = .no := by
          unfold gB g2 bnd ret
          simp only [c2, c1, z]
        unfold bnd at en
        rw [z2] at en
        exact en.elim
      · have z3 : g2 h (ret x) (ret y) ρ μ = .ok (.val (.bl kk)) ρ μ := by
          unfold g2 bnd ret
          simp only [c2, c1, z]
        have z2 : gB (g2 h (ret x) (ret y)) ρ μ = .ok kk ρ μ := by
          unfold gB bnd
          rw [z3] <;> rfl
        unfold bnd at en
        rw [z2] at en
        refine k v w d2 d1 H0 H2 mm μ σ ρ _ ok (vx.rdd ok c2) (vy.rdd ok c1) ⟨H0, H2, mm, ρ, .refl, .refl, .refl, ?_⟩
        rw [z]
        intro v' H0' H' mm' ok' nx' ow' ho' va'
        refine ⟨kk, va', ?_⟩
        cases kk with
        | false =>
          rw [if_neg Bool.false_ne_true]
          exact fin_val ok' ⟨H0p, Hp, mmp, ρp, nx.trans ow nx', OwN.trans nx ow ow', ho.trans ho', en⟩ rfl
        | true =>
          rw [if_pos rfl]
          -- the right one
          have h3 : rk W (knV S) (PVk (knV S) σ P0 w) (fun a : Unit × Vl => bnd gc fun u => fun ρ μ => match con μ ρ a.2 with
            | some a => (match con μ ρ u with
              | some b => h' a b ρ μ
              | none => .no)
            | none => .no) σ H' Q := ⟨H0p, Hp, mmp, ρp, H0', mm', ρ, μ, ((), y), ok', nx.trans ow nx', OwN.trans nx ow ow', ho.trans ho', ⟨trivial, vy.nx nx' ow' ho'⟩, en⟩
          refine rd_mono (rk_push (k := knV S) (stayV stay0) h3) fun u H3 h4 => ?_
          obtain ⟨H0p, Hp, mmp, ρp, H0, mm, ρ, μ, ⟨⟨_, x⟩, y⟩, ok, nx, ow, ho, ⟨⟨_, vx⟩, vy⟩, en⟩ := h4
          have vx : VlOk S Hp H0 H3 mm σ ρ w x := vx
          have vy : VlOk S Hp H0 H3 mm σ ρ u y := vy
          replace en : Fin S W H0 H3 mm σ ρ Q (match con μ ρ x with
            | some a => (match con μ ρ y with
              | some b => h' a b ρ μ
              | none => .no)
            | none => .no) := ⟨H0p, Hp, mmp, ρp, nx, ow, ho, en⟩
          cases c2 : con μ ρ x with
          | none => rw [c2] at en; exact en.no.elim
          | some d2 =>
            cases c1 : con μ ρ y with
            | none => rw [c2, c1] at en; exact en.no.elim
            | some d1 =>
              rw [c2, c1] at en
              exact k' w u d2 d1 H0 H3 mm μ σ ρ Q ok (vx.rdd ok c2) (vy.rdd ok c1) en
theorem e_chain {op op' : CmpOp} {r r' : R2} {h h' : D → D → EF Vl} {gc : EF Vl} (ho : OpR X (compareOp op) r) (ho' : OpR X (compareOp op') r') (k : K2 S W r h) (k' : K2 S W r' h') (cm : Cm h) (ha : PE X a (rd S W ga)) (hb : PE X b (rd S W gb)) (hc : PE X c (rd S W gc))
    (hm : lastMarks [op, op'] [b, c] = false := by rfl) : PE X (.Compare a [op, op'] [b, c] pos) (rd S W (gCh h h' ga gb gc)) := PE.weak (pe_chain ho ho' ha hb hc hm) fun _ _ _ => t_chn k k' cm
theorem t_chain {op op' : CmpOp} {r r' : R2} {h h' : D → D → EF Vl} {gc : EF Vl} (ho : OpR X (compareOp op) r) (ho' : OpR X (compareOp op') r') (k : K2 S W r h) (k' : K2 S W r' h') (cm : Cm h) (ha : PE X a (rd S W ga)) (hb : PE X b (rd S W gb)) (hc : PE X c (rd S W gc))
    (hm : lastMarks [op, op'] [b, c] = false := by rfl) : PT X (.Compare a [op, op'] [b, c] pos) (rt S W (gB (gCh h h' ga gb gc))) := PT.weak (pt_chain ho ho' ha hb hc hm) fun _ _ _ h => t_chn k k' cm (t_asB h)
end

/-! ### argument lists, displays -/
def aNil : EF (List D) := ret []
def aCons (g : EF Vl) (t : EF (List D)) : EF (List D) := bnd (gFrz g) fun x => bnd t fun ds => match x with
  | .val d => ret (d :: ds)
  | _ => stuck
def gTup (t : EF (List D)) : EF Vl := bnd t fun ds ρ μ => if ds.length ≤ sizeLine then .ok (.val (.tup ds)) ρ μ else .no
def gLst (t : EF (List D)) : EF Vl := bnd t fun ds ρ μ => if ds.length ≤ sizeLine then .ok (.frs (.lst ds)) ρ μ else .no
section
variable {S : Sta} {W : WX} {X : Cx} {pos : Pos} {e : Expr} {es : List Expr} {g : EF Vl} {t : EF (List D)}
theorem PA.weak {es : List Expr} {t u : TA} (h : PA X es t) (w : ∀ σ H Q, u σ H Q → t σ H Q) : PA X es u := ⟨fun p pins s σ H Q I q => h.run p pins s σ H Q I (w σ H Q q)⟩
theorem a_nil : PA X [] (ra S W aNil) := by
  refine PA.weak pa_nil fun σ H Q h => ?_
  obtain ⟨H0, mm, ρ, μ, ok, en⟩ := h
  exact en [] H0 H mm ok .refl .refl .refl rfl
theorem a_cons (ha : PE X e (rd S W g)) (hr : PA X es (ra S W t)) (hs : starEach (e :: es) X.env = (false, eval e X.env) :: starEach es X.env := by rfl) : PA X (e :: es) (ra S W (aCons g t)) := by
  refine PA.weak (pa_cons (e_frz ha) hr hs) fun σ H Q h => ?_
  refine rd_mono (rk_push (k := knV S) stay0 (rk_start h)) fun v H1 h1 => rd_mono (rk_push (k := knA S) (stayV stay0) h1) fun vs H2 h2 => rk_go h2 fun G H0 mm ρ μ a pa ok en => ?_
  obtain ⟨⟨_, x⟩, ds⟩ := a
  obtain ⟨⟨_, vx⟩, vds⟩ := pa
  have vx : VlOk S G H0 H2 mm σ ρ v x := vx
  have vds : Dps S H0 mm vs ds := vds
  cases x with
  | val d => exact en (v :: vs) H0 H2 mm ok .refl .refl .refl ⟨v, vs, rfl, vx, vds⟩
  | frs d => exact en.elim
  | slt i => exact en.elim
theorem e_tup {k} (h : PA X es (ra S W t)) : PE X (.Tuple es k pos) (rd S W (gTup t)) := by
  refine PE.weak (pe_tup h) fun σ H Q h => ?_
  refine rd_mono (rk_push (k := knA S) stay0 (rk_start h)) fun vs H1 h1 => rk_go h1 fun G H0 mm ρ μ a pa ok en => ?_
  obtain ⟨_, ds⟩ := a
  have vds : Dps S H0 mm vs ds := pa.2
  replace en : EndV S W H0 H1 mm σ ρ Q (if ds.length ≤ sizeLine then .ok (.val (.tup ds)) ρ μ else .no) := en
  by_cases hl : ds.length ≤ sizeLine
  · rw [if_pos hl] at en
    exact ⟨by rw [vds.length]; exact hl, fun p hp => fin_tup ok (EndV.fin en) vds hp⟩
  · rw [if_neg hl] at en
    exact en.elim
theorem e_lst (h : PA X es (ra S W t)) : PE X (.List es pos) (rd S W (gLst t)) := by
  refine PE.weak (pe_lst h) fun σ H Q h => ?_
  refine rd_mono (rk_push (k := knA S) stay0 (rk_start h)) fun vs H1 h1 => rk_go h1 fun G H0 mm ρ μ a pa ok en => ?_
  obtain ⟨_, ds⟩ := a
  have vds : Dps S H0 mm vs ds := pa.2
  replace en : EndV S W H0 H1 mm σ ρ Q (if ds.length ≤ sizeLine then .ok (.frs (.lst ds)) ρ μ else .no) := en
  by_cases hl : ds.length ≤ sizeLine
  · rw [if_pos hl] at en
    exact ⟨by rw [vds.length]; exact hl, fun p hp => fin_lst ok (EndV.fin en) vds hp⟩
  · rw [if_neg hl] at en
    exact en.elim
end
end DL
set_option maxRecDepth 100000
set_option maxHeartbeats 1000000
/-! Statements: readings of data; assignment, if, for, while, return. -/
namespace DL
open PySem PySem.Spec L2 NdefX

inductive SR where
  | nx (ρ : Env) (μ : Mu) | rt (d : D) (ρ : Env) (μ : Mu) | bk (ρ : Env) (μ : Mu) | ct (ρ : Env) (μ : Mu) | exc (x : Exn) (ρ : Env) (μ : Mu) | no
abbrev SF := Env → Mu → SR
section
variable {S : Sta} (W : WX)
def EndS (H0 H : Hp) (mm : List Addr) (σ : St) (ρ : Env) (D : Ends) : SR → Prop
  | .nx ρ' μ' => ∀ σ' H0' H' mm', Ok S H0' H' mm' μ' σ' ρ' → Nx (Own σ ρ) H0 H mm H0' H' mm' → OwN H (Own σ ρ) (Own σ' ρ') → D.nx σ' H'
  | .bk ρ' μ' => ∀ σ' H0' H' mm', Ok S H0' H' mm' μ' σ' ρ' → Nx (Own σ ρ) H0 H mm H0' H' mm' → OwN H (Own σ ρ) (Own σ' ρ') → D.bk σ' H'
  | .ct ρ' μ' => ∀ σ' H0' H' mm', Ok S H0' H' mm' μ' σ' ρ' → Nx (Own σ ρ) H0 H mm H0' H' mm' → OwN H (Own σ ρ) (Own σ' ρ') → D.ct σ' H'
  | .rt d ρ' μ' => ∀ v σ' H0' H' mm', Ok S H0' H' mm' μ' σ' ρ' → Nx (Own σ ρ) H0 H mm H0' H' mm' → OwN H (Own σ ρ) (Own σ' ρ') → Dp S H0' mm' v d → D.rt v H'
  | .exc x ρ' μ' => ∀ cls od σ' H0' H' mm', Ok S H0' H' mm' μ' σ' ρ' → Nx (Own σ ρ) H0 H mm H0' H' mm' → OwN H (Own σ ρ) (Own σ' ρ') → XRep S H0' H' mm' cls od x → W cls od σ' H'
  | .no => False
end
def rs (S : Sta) (W : WX) (f : SF) : TS := fun D σ H => ∃ H0 mm ρ μ, Ok S H0 H mm μ σ ρ ∧ EndS (S := S) W H0 H mm σ ρ D (f ρ μ)
section
variable {S : Sta} {W : WX} {σ σ' : St} {H0 H H0' H' : Hp} {mm mm' : List Addr} {ρ ρ' : Env} {D : Ends} {r : SR}
theorem EndS.later (nx : Nx (Own σ ρ) H0 H mm H0' H' mm') (ow : OwN H (Own σ ρ) (Own σ' ρ')) (en : EndS (S := S) W H0 H mm σ ρ D r) : EndS (S := S) W H0' H' mm' σ' ρ' D r := by
  cases r with
  | no => exact en
  | exc y ρ2 μ2 => exact fun cls od σ2 H02 H2 mm2 ok2 nx2 ow2 xr => en cls od σ2 H02 H2 mm2 ok2 (nx.trans ow nx2) (OwN.trans nx ow ow2) xr
  | rt d ρ2 μ2 => exact fun v σ2 H02 H2 mm2 ok2 nx2 ow2 xr => en v σ2 H02 H2 mm2 ok2 (nx.trans ow nx2) (OwN.trans nx ow ow2) xr
  | nx ρ2 μ2 => exact fun σ2 H02 H2 mm2 ok2 nx2 ow2 => en σ2 H02 H2 mm2 ok2 (nx.trans ow nx2) (OwN.trans nx ow ow2)
  | bk ρ2 μ2 => exact fun σ2 H02 H2 mm2 ok2 nx2 ow2 => en σ2 H02 H2 mm2 ok2 (nx.trans ow nx2) (OwN.trans nx ow ow2)
  | ct ρ2 μ2 => exact fun σ2 H02 H2 mm2 ok2 nx2 ow2 => en σ2 H02 H2 mm2 ok2 (nx.trans ow nx2) (OwN.trans nx ow ow2)
end
/-! ### blocks -/
def sNil : SF := fun ρ μ => .nx ρ μ
def sSeq (f g : SF) : SF := fun ρ μ => match f ρ μ with
  | .nx ρ' μ' => g ρ' μ'
  | r => r
def sBreak : SF := fun ρ μ => .bk ρ μ
def sCont : SF := fun ρ μ => .ct ρ μ
def sNever : SF := fun _ _ => .no
/-- an expression, then a statement -/
def sBnd {α : Type} (g : EF α) (f : α → SF) : SF := fun ρ μ => match g ρ μ with
  | .ok a ρ' μ' => f a ρ' μ'
  | .exc x ρ' μ' => .exc x ρ' μ'
  | .no => .no
def sExp (g : EF Vl) : SF := sBnd g fun _ => sNil
def sRetV : Vl → SF
  | .val d, ρ, μ => .rt d ρ μ
  | _, _, _ => .no
def sRet (g : EF Vl) : SF := sBnd (gFrz g) sRetV
def sRetN : SF := fun ρ μ => .rt .non ρ μ
def sIf (t : EF Bool) (f g : SF) : SF := sBnd t fun c => match c with
  | true => f
  | false => g
def putV (i : Nat) : Vl → SF
  | .val d, ρ, μ => .nx (ρ.set i (.fz d)) μ
  | .frs d, ρ, μ => .nx (ρ.set i (.ow d)) μ
  | .slt _, _, _ => .no
def sSet (i : Nat) (g : EF Vl) : SF := sBnd g (putV i)
section
variable {S : Sta} {W : WX} {X : Cx} {pos : Pos} {σ : St} {H : Hp} {D : Ends}
/-- statements behind an expression's result -/
theorem rs_bnd {α β : Type} {k : Knd S α β} {g : EF α} {f : α → SF} (h : rs S W (sBnd g f) D σ H) :
    rdK W k g σ H fun v H' => ∃ H0p Hp mmp ρp H0 mm ρ μ a, Ok S H0 H' mm μ σ ρ ∧ Nx (Own σ ρp) H0p Hp mmp H0 H' mm ∧ OwN Hp (Own σ ρp) (Own σ ρ) ∧ Hold ρp ρ ∧ k.A Hp H0 H' mm σ ρ v a ∧ EndS (S := S) W H0p Hp mmp σ ρp D (f a ρ μ) := by
  obtain ⟨H0, mm, ρ, μ, ok, en⟩ := h
  refine ⟨H0, mm, ρ, μ, ok, ?_⟩
  unfold sBnd at en
  cases q : g ρ μ with
  | no => rw [q] at en; exact en
  | exc x ρ' μ' =>
    rw [q] at en
    intro cls od H02 H2 mm2 ok2 nx2 ow2 xr
    exact en cls od σ H02 H2 mm2 ok2 nx2 ow2 xr
  | ok x ρ' μ' =>
    rw [q] at en
    intro v H0' H' mm' ok' nx ow ho va
    exact ⟨H0, H, mm, ρ, H0', mm', ρ', μ', x, ok', nx, ow, ho, va, en⟩
theorem s_nil : PSs X [] (rs S W sNil) := PSs.weak pss_nil fun D σ H h => by
  obtain ⟨H0, mm, ρ, μ, ok, en⟩ := h
  exact en σ H0 H mm ok .refl .refl
theorem t_seq {f g : SF} (h : rs S W (sSeq f g) D σ H) : rs S W f { D with nx := rs S W g D } σ H := by
  obtain ⟨H0, mm, ρ, μ, ok, en⟩ := h
  refine ⟨H0, mm, ρ, μ, ok, ?_⟩
  unfold sSeq at en
  cases q : f ρ μ with
  | no => rw [q] at en; exact en
  | exc x ρ' μ' => rw [q] at en; exact en
  | rt x ρ' μ' => rw [q] at en; exact en
  | bk ρ' μ' => rw [q] at en; exact en
  | ct ρ' μ' => rw [q] at en; exact en
  | nx ρ' μ' =>
    rw [q] at en
    intro σ' H0' H' mm' ok' nx ow
    exact ⟨H0', mm', ρ', μ', ok', EndS.later nx ow en⟩
theorem s_cons {st : Stmt} {rest : List Stmt} {f g : SF} (h1 : PS X st (rs S W f)) (h2 : PSs X rest (rs S W g)) : PSs X (st :: rest) (rs S W (sSeq f g)) := PSs.weak (pss_cons h1 h2) fun D σ H h => t_seq h
theorem s_one {st : Stmt} {f : SF} (h1 : PS X st (rs S W f)) : PSs X [st] (rs S W f) := pss_one h1
theorem s_pass : PS X (.Pass pos) (rs S W sNil) := PS.weak ps_pass fun D σ H h => by
  obtain ⟨H0, mm, ρ, μ, ok, en⟩ := h
  exact en σ H0 H mm ok .refl .refl
theorem s_break : PS X (.Break pos) (rs S W sBreak) := PS.weak ps_break fun D σ H h => by
  obtain ⟨H0, mm, ρ, μ, ok, en⟩ := h
  exact en σ H0 H mm ok .refl .refl
theorem s_cont : PS X (.Continue pos) (rs S W sCont) := PS.weak ps_continue fun D σ H h => by
  obtain ⟨H0, mm, ρ, μ, ok, en⟩ := h
  exact en σ H0 H mm ok .refl .refl
theorem s_never {st : Stmt} : PS X st (rs S W sNever) := PS.weak ps_never fun D σ H h => by
  obtain ⟨H0, mm, ρ, μ, ok, en⟩ := h
  exact en
theorem s_expr {e : Expr} {g : EF Vl} (he : PE X e (rd S W g)) (hs : swapsWith e none pos.line X.env = pure false := by rfl) : PS X (.Expr e pos) (rs S W (sExp g)) := PS.weak (ps_expr he hs) fun D σ H h =>
  rd_mono (rs_bnd (k := knV S) h) fun v H1 ⟨H0p, Hp, mmp, ρp, H0, mm, ρ, μ, a, ok, nx, ow, ho, va, en⟩ => en σ H0 H1 mm ok nx ow
theorem s_ret {e : Expr} {g : EF Vl} (he : PE X e (rd S W g)) : PS X (.Return (some e) pos) (rs S W (sRet g)) := PS.weak (ps_ret (e_frz he)) fun D σ H h =>
  rd_mono (rs_bnd (k := knV S) h) fun v H1 ⟨H0p, Hp, mmp, ρp, H0, mm, ρ, μ, a, ok, nx, ow, ho, va, en⟩ => by
    cases a with
    | val d => exact en v σ H0 H1 mm ok nx ow va
    | frs d => exact en.elim
    | slt i => exact en.elim
theorem s_retN : PS X (.Return none pos) (rs S W sRetN) := PS.weak ps_retN fun D σ H h => by
  obtain ⟨H0, mm, ρ, μ, ok, en⟩ := h
  exact en .non σ H0 H mm ok .refl .refl rfl
theorem s_if {c : Expr} {a b : List Stmt} {t : EF Bool} {f g : SF} (hc : PT X c (rt S W t)) (ha : PSs X a (rs S W f)) (hb : PSs X b (rs S W g)) : PS X (.If c a b pos) (rs S W (sIf t f g)) := PS.weak (ps_if hc ha hb) fun D σ H h =>
  rd_mono (rs_bnd (k := knB S) h) fun v H1 ⟨H0p, Hp, mmp, ρp, H0, mm, ρ, μ, a, ok, nx, ow, ho, va, en⟩ => by
    obtain rfl : v = a := va
    cases v with
    | true => exact ⟨H0, mm, ρ, μ, ok, EndS.later nx ow en⟩
    | false => exact ⟨H0, mm, ρ, μ, ok, EndS.later nx ow en⟩
end

/-! ### slots are stored -/
section
variable {S : Sta} {W : WX} {σ : St} {H0 H H0' H' : Hp} {mm mm' : List Addr} {μ : Mu} {ρ ρ' : Env} {v : V} {d : D} {i : Nat} {a : Addr}
theorem set_cases {α : Type} {l : List α} {i j : Nat} {x y : α} (h : (l.set i x)[j]? = some y) : (j = i ∧ y = x ∧ i < l.length) ∨ (j ≠ i ∧ l[j]? = some y) := by
  by_cases hj : i = j
  · subst hj
    by_cases hl : i < l.length
    · rw [List.getElem?_set_self hl] at h
      cases h
      exact .inl ⟨rfl, rfl, hl⟩
    · rw [List.getElem?_eq_none (by rw [List.length_set]; omega)] at h
      cases h
  · rw [List.getElem?_set_ne hj] at h
    exact .inr ⟨Ne.symm hj, h⟩
theorem own_set {s : Sl} {x : Option V} {b : Addr} (h : Own (σ.set i x) (ρ.set i s) b) : Own σ ρ b ∨ ((∃ d, s = .ow d) ∧ x = some (.ref b)) := by
  obtain ⟨j, d', e1, e2⟩ := h
  rcases set_cases e1 with ⟨rfl, e, _⟩ | ⟨hj, e⟩
  · rcases set_cases e2 with ⟨_, e', _⟩ | ⟨hj, _⟩
    · exact .inr ⟨⟨d', e.symm⟩, e'.symm⟩
    · exact absurd rfl hj
  · rcases set_cases e2 with ⟨h, _⟩ | ⟨_, e'⟩
    · exact absurd h hj
    · exact .inl ⟨j, d', e, e'⟩
theorem Ok.put_fz (ok : Ok S H0 H mm μ σ ρ) (q : Dp S H0 mm v d) : Ok S H0 H mm μ (σ.set i (some v)) (ρ.set i (.fz d)) := by
  refine ⟨ok.g, by rw [List.length_set, List.length_set]; exact ok.e.len, fun j s e => ?_, fun j k b d1 d2 hjk e1 e2 f1 f2 => ?_⟩
  · rcases set_cases e with ⟨rfl, rfl, hl⟩ | ⟨hj, e⟩
    · exact ⟨v, List.getElem?_set_self (by rw [ok.e.len]; exact hl), q⟩
    · rw [List.getElem?_set_ne (Ne.symm hj)]
      exact ok.e.at_ j s e
  · rcases set_cases e1 with ⟨_, z, _⟩ | ⟨hj, e1⟩
    · cases z
    · rcases set_cases e2 with ⟨_, z, _⟩ | ⟨hk, e2⟩
      · cases z
      · rw [List.getElem?_set_ne (Ne.symm hj)] at f1
        rw [List.getElem?_set_ne (Ne.symm hk)] at f2
        exact ok.e.sep j k b d1 d2 hjk e1 e2 f1 f2
theorem Ok.put_ow (ok : Ok S H0 H mm μ σ ρ) (h0 : H0 a = none) (hm : a ∉ mm) (no : ¬ Own σ ρ a) (q : OwOk S H0 H mm a d) : Ok S H0 H mm μ (σ.set i (some (.ref a))) (ρ.set i (.ow d)) := by
  refine ⟨ok.g, by rw [List.length_set, List.length_set]; exact ok.e.len, fun j s e => ?_, fun j k b d1 d2 hjk e1 e2 f1 f2 => ?_⟩
  · rcases set_cases e with ⟨rfl, rfl, hl⟩ | ⟨hj, e⟩
    · exact ⟨a, List.getElem?_set_self (by rw [ok.e.len]; exact hl), h0, hm, q⟩
    · rw [List.getElem?_set_ne (Ne.symm hj)]
      exact ok.e.at_ j s e
  · rcases set_cases e1 with ⟨rfl, z, _⟩ | ⟨hj, e1⟩
    · rcases set_cases e2 with ⟨rfl, _, _⟩ | ⟨hk, e2⟩
      · exact hjk rfl
      · rw [List.getElem?_set_ne (Ne.symm hk)] at f2
        rcases set_cases f1 with ⟨_, z, _⟩ | ⟨z, _⟩
        · cases z
          exact no ⟨k, d2, e2, f2⟩
        · exact z rfl
    · rw [List.getElem?_set_ne (Ne.symm hj)] at f1
      rcases set_cases e2 with ⟨rfl, z, _⟩ | ⟨hk, e2⟩
      · rcases set_cases f2 with ⟨_, z, _⟩ | ⟨z, _⟩
        · cases z
          exact no ⟨j, d1, by assumption, f1⟩
        · exact z rfl
      · rw [List.getElem?_set_ne (Ne.symm hk)] at f2
        exact ok.e.sep j k b d1 d2 hjk e1 e2 f1 f2
/-- a value on hand goes to slot i -/
theorem put_go {D : Ends} {H0p Hp : Hp} {mmp : List Addr} {ρp : Env} {x : Vl} (ok : Ok S H0 H mm μ σ ρ) (nx : Nx (Own σ ρp) H0p Hp mmp H0 H mm) (ow : OwN Hp (Own σ ρp) (Own σ ρ)) (va : VlOk S Hp H0 H mm σ ρ v x)
    (en : EndS (S := S) W H0p Hp mmp σ ρp D (putV i x ρ μ)) : D.nx (σ.set i (some v)) H := by
  cases x with
  | val d =>
    refine en _ H0 H mm (ok.put_fz va) nx fun b hb => ?_
    rcases own_set hb with z | ⟨⟨_, z⟩, _⟩
    · exact ow b z
    · cases z
  | frs d =>
    obtain ⟨a, rfl, hg, h0, hm, no, q⟩ := va
    refine en _ H0 H mm (ok.put_ow h0 hm no q) nx fun b hb => ?_
    rcases own_set hb with z | ⟨_, z⟩
    · exact ow b z
    · cases z
      exact .inr hg
  | slt j => exact en.elim
end
section
variable {S : Sta} {W : WX} {X : Cx} {pos pos' : Pos} {e : Expr} {g : EF Vl} {i : Nat} {x : Str}
theorem s_set (hN : X.N.Nodup) (hi : X.N[i]? = some x) (hx : Loc X.env.scope x) (he : PE X e (rd S W g)) (hs : swapsWith e (some (.Name x pos')) pos.line X.env = pure false := by rfl) (hf : X.fn x = true ∨ X.env.scope.names.lookup x = some .local := by first | exact .inl rfl | exact .inr rfl | assumption) :
    PS X (.Assign [.Name x pos'] e pos) (rs S W (sSet i g)) := PS.weak (ps_set hN hi hx he hs hf) fun D σ H h =>
  rd_mono (rs_bnd (k := knV S) h) fun v H1 ⟨H0p, Hp, mmp, ρp, H0, mm, ρ, μ, a, ok, nx, ow, ho, va, en⟩ => put_go ok nx ow va en
end

/-! ### targets -/
abbrev TF := D → EF Unit
/-- only the slots told are stored -/
def OnlyAt : Option (List Nat) → St → St → Prop
  | none, _, _ => True
  | some vs, σ, σ' => σ'.length = σ.length ∧ ∀ (i : Nat), i ∉ vs → σ'[i]? = σ[i]?
theorem OnlyAt.refl : ∀ {z : Option (List Nat)} {σ : St}, OnlyAt z σ σ
  | none, _ => trivial
  | some _, _ => ⟨rfl, fun _ _ => rfl⟩
theorem OnlyAt.trans : ∀ {z : Option (List Nat)} {σ σ' σ'' : St}, OnlyAt z σ σ' → OnlyAt z σ' σ'' → OnlyAt z σ σ''
  | none, _, _, _, _, _ => trivial
  | some _, _, _, _, a, b => ⟨b.1.trans a.1, fun i h => (b.2 i h).trans (a.2 i h)⟩
theorem OnlyAt.set {i : Nat} {v : Option V} : ∀ {z : Option (List Nat)} {σ : St}, (∀ l, z = some l → i ∈ l) → OnlyAt z σ (σ.set i v)
  | none, _, _ => trivial
  | some vs, σ, h => ⟨List.length_set, fun j hj => List.getElem?_set_ne fun e => hj (by rw [← e]; exact h vs rfl)⟩
def EndG {S : Sta} (z : Option (List Nat)) (H0 H : Hp) (mm : List Addr) (σ : St) (ρ : Env) (Q : St → Hp → Prop) : R Unit → Prop
  | .ok _ ρ' μ' => ∀ σ' H0' H' mm', Ok S H0' H' mm' μ' σ' ρ' → Nx (Own σ ρ) H0 H mm H0' H' mm' → OwN H (Own σ ρ) (Own σ' ρ') → OnlyAt z σ σ' → Hold ρ ρ' → Q σ' H'
  | .exc _ _ _ => False
  | .no => False
def rg (S : Sta) (z : Option (List Nat)) (f : TF) : TG := fun v σ H Q => ∃ H0 mm ρ μ d, Ok S H0 H mm μ σ ρ ∧ Dp S H0 mm v d ∧ EndG (S := S) z H0 H mm σ ρ Q (f d ρ μ)
def rgs (S : Sta) (z : Option (List Nat)) (f : List D → EF Unit) : TGs := fun vs σ H Q => ∃ H0 mm ρ μ ds, Ok S H0 H mm μ σ ρ ∧ Dps S H0 mm vs ds ∧ EndG (S := S) z H0 H mm σ ρ Q (f ds ρ μ)
def toName (i : Nat) : TF := fun d ρ μ => .ok () (ρ.set i (.fz d)) μ
def toNil : List D → EF Unit
  | [], ρ, μ => .ok () ρ μ
  | _ :: _, _, _ => .no
def toCons (f : TF) (g : List D → EF Unit) : List D → EF Unit
  | d :: ds => bnd (f d) fun _ => g ds
  | [] => stuck
def toTup (n : Nat) (g : List D → EF Unit) : TF
  | .tup ds, ρ, μ => if ds.length = n then g ds ρ μ else .no
  | _, _, _ => .no
section
variable {S : Sta} {X : Cx} {pos : Pos} {σ σ' : St} {H0 H H0' H' : Hp} {mm mm' : List Addr} {ρ ρ' : Env} {Q : St → Hp → Prop} {r : R Unit} {z : Option (List Nat)}
theorem EndG.later (nx : Nx (Own σ ρ) H0 H mm H0' H' mm') (ow : OwN H (Own σ ρ) (Own σ' ρ')) (oa : OnlyAt z σ σ') (ho : Hold ρ ρ') (en : EndG (S := S) z H0 H mm σ ρ Q r) : EndG (S := S) z H0' H' mm' σ' ρ' Q r := by
  cases r with
  | no => exact en
  | exc y ρ2 μ2 => exact en
  | ok u ρ2 μ2 => exact fun σ2 H02 H2 mm2 ok2 nx2 ow2 oa2 ho2 => en σ2 H02 H2 mm2 ok2 (nx.trans ow nx2) (OwN.trans nx ow ow2) (oa.trans oa2) (ho.trans ho2)
theorem PG.weak {tg : Expr} {t u : TG} (h : PG X tg t) (w : ∀ v σ H Q, u v σ H Q → t v σ H Q) : PG X tg u := ⟨fun pins s σ H v z Q I r q => h.run pins s σ H v z Q I r (w v σ H Q q)⟩
theorem PGs.weak {ts : List Expr} {t u : TGs} (h : PGs X ts t) (w : ∀ v σ H Q, u v σ H Q → t v σ H Q) : PGs X ts u := ⟨fun pins s σ H v z Q I r q => h.run pins s σ H v z Q I r (w v σ H Q q)⟩
theorem g_name {i : Nat} {x : Str} (hN : X.N.Nodup) (hi : X.N[i]? = some x) (hx : Loc X.env.scope x) (hz : ∀ l, z = some l → i ∈ l := by intro l h; cases h <;> decide) (hf : X.fn x = true ∨ X.env.scope.names.lookup x = some .local := by first | exact .inl rfl | exact .inr rfl | assumption) : PG X (.Name x pos) (rg S z (toName i)) := PG.weak (pg_name hN hi hx hf) fun v σ H Q h => by
  obtain ⟨H0, mm, ρ, μ, d, ok, q, en⟩ := h
  refine en _ H0 H mm (ok.put_fz q) .refl (fun b hb => ?_) (.set hz) (hold_set fun z => by cases z)
  rcases own_set hb with z | ⟨⟨_, z⟩, _⟩
  · exact .inl z
  · cases z
theorem gs_nil : PGs X [] (rgs S z toNil) := PGs.weak pgs_nil fun vs σ H Q h => by
  obtain ⟨H0, mm, ρ, μ, ds, ok, q, en⟩ := h
  cases ds with
  | nil => exact ⟨q, en σ H0 H mm ok .refl .refl .refl .refl⟩
  | cons d ds => exact en.elim
theorem gs_cons {e : Expr} {es : List Expr} {f : TF} {g : List D → EF Unit} (h1 : PG X e (rg S z f)) (h2 : PGs X es (rgs S z g)) (hs : (assignEach (e :: es) X.env).map (·.2) = assign e X.env :: (assignEach es X.env).map (·.2) := by rfl) : PGs X (e :: es) (rgs S z (toCons f g)) := PGs.weak (pgs_cons h1 h2 hs) fun vs σ H Q h => by
  obtain ⟨H0, mm, ρ, μ, ds, ok, q, en⟩ := h
  cases ds with
  | nil => exact en.elim
  | cons d ds =>
    obtain ⟨v, r, rfl, q1, q2⟩ := q
    refine ⟨v, r, rfl, H0, mm, ρ, μ, d, ok, q1, ?_⟩
    replace en : EndG (S := S) z H0 H mm σ ρ Q (bnd (f d) (fun _ => g ds) ρ μ) := en
    unfold bnd at en
    cases y : f d ρ μ with
    | no => rw [y] at en; exact en
    | exc x ρ' μ' => rw [y] at en; exact en
    | ok u ρ' μ' =>
      rw [y] at en
      intro σ' H0' H' mm' ok' nx ow oa ho
      exact ⟨H0', mm', ρ', μ', ds, ok', q2.nx nx, EndG.later nx ow oa ho en⟩
theorem g_tup {es : List Expr} {k : Nat} {g : List D → EF Unit} {n : Nat} (hc : X.calm = true) (h : PGs X es (rgs S z g)) (hK : X.K = S.K) (hn : (assignEach es X.env).length = n := by rfl) (hst : (assignEach es X.env).findIdx? (·.1) = none := by rfl) : PG X (.Tuple es k pos) (rg S z (toTup n g)) := PG.weak (pg_tup hc h hn hst) fun v σ H Q hh => by
  obtain ⟨H0, mm, ρ, μ, d, ok, q, en⟩ := hh
  cases d with
  | tup ds =>
    obtain ⟨a, vs, rfl, q1, q2⟩ := q
    replace en : EndG (S := S) z H0 H mm σ ρ Q (if ds.length = n then g ds ρ μ else .no) := en
    by_cases hl : ds.length = n
    · rw [if_pos hl] at en
      exact ⟨a, vs, rfl, by rw [hK]; exact sqT_sub ok.g.sub q1, by rw [q2.length]; exact hl, H0, mm, ρ, μ, ds, ok, q2, en⟩
    · rw [if_neg hl] at en
      exact en.elim
  | _ => exact en.elim
end
/-- target = value, by data -/
def okS : R Unit → SR
  | .ok _ ρ' μ' => .nx ρ' μ'
  | _ => .no
def sAsgV (f : TF) : Vl → SF
  | .val d, ρ, μ => okS (f d ρ μ)
  | _, _, _ => .no
def sAsg (f : TF) (g : EF Vl) : SF := sBnd (gFrz g) (sAsgV f)
section
variable {S : Sta} {W : WX} {X : Cx} {pos : Pos} {e tg : Expr} {g : EF Vl} {f : TF}
theorem s_asg (he : PE X e (rd S W g)) (hg : PG X tg (rg S none f)) (hs : swapsWithSole [tg] e pos.line X.env = pure false := by rfl) (hw : swappedStores [tg] e X.env = pure none := by rfl)
    (h1 : (assignEach [tg] X.env).map (·.2) = [assign tg X.env] := by rfl) : PS X (.Assign [tg] e pos) (rs S W (sAsg f g)) := PS.weak (ps_asg (e_frz he) hg hs hw h1) fun D σ H h =>
  rd_mono (rs_bnd (k := knV S) h) fun v H1 ⟨H0p, Hp, mmp, ρp, H0, mm, ρ, μ, a, ok, nx, ow, ho, va, en⟩ => by
    cases a with
    | frs d => exact en.elim
    | slt i => exact en.elim
    | val d =>
      refine ⟨H0, mm, ρ, μ, d, ok, va, ?_⟩
      replace en : EndS (S := S) W H0p Hp mmp σ ρp D (okS (f d ρ μ)) := en
      cases z : f d ρ μ with
      | no => rw [z] at en; exact en.elim
      | exc x ρ' μ' => rw [z] at en; exact en.elim
      | ok u ρ' μ' =>
        rw [z] at en
        exact fun σ' H0' H' mm' ok' nx' ow' _ _ => en σ' H0' H' mm' ok' (nx.trans ow nx') (OwN.trans nx ow ow')
end
end DL
set_option maxRecDepth 100000
set_option maxHeartbeats 1000000
/-! Loops: what is walked, for, while. -/
namespace DL
open PySem PySem.Spec L2 NdefX

/-- the turns of J, from a moment on, are the data ds -/
def Walks (S : Sta) (J : It) (ds : List D) (K0 : Hp) (kk : List Addr) : Prop := ∀ (i : Nat) (σ : St) (ρ : Env) (μ : Mu) (H0 H : Hp) (mm : List Addr), Ok S H0 H mm μ σ ρ → Sub K0 H0 → Pre kk mm →
  (∀ d, ds[i]? = some d → J.go i H ∧ ∀ x H2, J.yld i H x H2 → ∃ H02, Ok S H02 H2 mm μ σ ρ ∧ Nx (Own σ ρ) H0 H mm H02 H2 mm ∧ Dp S H02 mm x d) ∧ (ds.length ≤ i → J.stop i H)
theorem Walks.mono {S : Sta} {J : It} {ds : List D} {K0 K0' : Hp} {kk kk' : List Addr} (w : Walks S J ds K0 kk) (s : Sub K0 K0') (p : Pre kk kk') : Walks S J ds K0' kk' := fun i σ ρ μ H0 H mm ok s' p' => w i σ ρ μ H0 H mm ok (s.trans s') (p.trans p')
/-- what a loop walks -/
def knI (S : Sta) : Knd S (List D) It := ⟨fun _ H0 _ mm _ _ J ds => Walks S J ds H0 mm, fun n _ _ h => h.mono n.old0 n.pre, fun _ h => h⟩
abbrev ri (S : Sta) (W : WX) (g : EF (List D)) : TI := rdK W (knI S) g
theorem PI.weak {X : Cx} {tg e : Expr} {t u : TI} (h : PI X tg e t) (w : ∀ σ H R, u σ H R → t σ H R) : PI X tg e u := ⟨fun pins s σ H R I q => h.run pins s σ H R I (w σ H R q)⟩

/-! ### sources -/
def iSeq (g : EF Vl) : EF (List D) := bnd (gFrz g) fun x => match x with
  | .val (.lst ds) => ret ds
  | .val (.tup ds) => ret ds
  | .val (.scr ds) => ret ds
  | _ => stuck
section
variable {S : Sta} {W : WX} {X : Cx} {tg e : Expr} {g : EF Vl}
theorem walks_list {K0 : Hp} {kk : List Addr} {a : Addr} {vs : List V} {ds : List D} (q : SqL S.K K0 a vs) (r : Dps S K0 kk vs ds) : Walks S (Itl S.K a) ds K0 kk := fun i σ ρ μ H0 H mm ok s p => by
  have q' := sqL_sub (s.trans ok.g.sub) q
  refine ⟨fun d e => ?_, fun h => ⟨vs, q', by rw [r.length]; exact h⟩⟩
  obtain ⟨v, ev, dv⟩ := r.get e
  refine ⟨⟨vs, v, q', ev⟩, fun x H2 y => ?_⟩
  obtain ⟨rfl, y⟩ := y
  have ex := y vs q'
  rw [ev] at ex
  cases ex
  exact ⟨H0, ok, .refl, Dp.mono s p d dv⟩
theorem walks_tup {K0 : Hp} {kk : List Addr} {a : Addr} {vs : List V} {ds : List D} (q : SqT S.K K0 a vs) (r : Dps S K0 kk vs ds) : Walks S (Itt S.K a) ds K0 kk := fun i σ ρ μ H0 H mm ok s p => by
  have q' := sqT_sub (s.trans ok.g.sub) q
  refine ⟨fun d e => ?_, fun h => ⟨vs, q', by rw [r.length]; exact h⟩⟩
  obtain ⟨v, ev, dv⟩ := r.get e
  refine ⟨⟨vs, v, q', ev⟩, fun x H2 y => ?_⟩
  obtain ⟨rfl, y⟩ := y
  have ex := y vs q'
  rw [ev] at ex
  cases ex
  exact ⟨H0, ok, .refl, Dp.mono s p d dv⟩
/-- a list or a tuple, whatever it is -/
def iEither (K : PySem.W.Frag) (tl : TE) : TI := fun σ H R => tl σ H fun x H1 => ∃ a, x = .ref a ∧ (((∃ xs, SqL K H1 a xs) ∧ R (Itl K a) H1) ∨ ((∃ xs, SqT K H1 a xs) ∧ R (Itt K a) H1))
theorem pi_either {l : Expr} {tl : TE} (hl : PE X l tl) : PI X tg l (iEither X.K tl) := by
  refine ⟨fun pins s σ H R I h => ?_⟩
  refine thn (hl.run pins s σ H _ I h) fun v s1 ⟨x, H1, I1, r1, q1⟩ => ?_
  obtain ⟨a, e, q⟩ := q1
  subst e
  cases r1
  rcases q with ⟨⟨xs, hq⟩, q⟩ | ⟨⟨xs, hq⟩, q⟩
  · obtain ⟨its, rv, p, hz⟩ := I1.list hq
    refine wpAny_pyIter_list p.isList ?_
    refine ⟨s1.heap.objs.size, [s1.heap.objs.size], _, _, H1, rfl, I1.kept (t' := s1.toks) fun b o e => Heap.get?_push_of_some _ e, turn_list a _, ⟨_, Heap.get?_push_size _ rfl, rfl, rfl⟩, fun b hb => ?_, q⟩
    have e : b = s1.heap.objs.size := by simpa using hb
    subst e
    exact I1.fpOk (Nat.le_refl _) (I1.hok.fresh (Nat.le_refl _))
  · obtain ⟨its, rv, p, hz⟩ := I1.tuple hq
    refine wpAny_pyIter_tuple (show s1.heap.IsTuple a its.toArray from p) ?_
    refine ⟨s1.heap.objs.size, [s1.heap.objs.size], _, _, H1, rfl, I1.kept (t' := s1.toks) fun b o e => Heap.get?_push_of_some _ e, turn_tuple a _, ⟨_, Heap.get?_push_size _ rfl, rfl, rfl⟩, fun b hb => ?_, q⟩
    have e : b = s1.heap.objs.size := by simpa using hb
    subst e
    exact I1.fpOk (Nat.le_refl _) (I1.hok.fresh (Nat.le_refl _))
theorem i_seq (hK : X.K = S.K) (he : PE X e (rd S W g)) : PI X tg e (ri S W (iSeq g)) := by
  refine PI.weak (pi_either (e_frz he)) fun σ H R h => ?_
  refine rd_mono (rk_push (k := knV S) stay0 (rk_start h)) fun v H1 h1 => rk_go h1 fun G H0 mm ρ μ a pa ok en => ?_
  obtain ⟨_, x⟩ := a
  have vx : VlOk S G H0 H1 mm σ ρ v x := pa.2
  rw [hK]
  cases x with
  | frs d => exact en.elim
  | slt i => exact en.elim
  | val d =>
    cases d with
    | lst ds =>
      obtain ⟨a, vs, rfl, q, r⟩ := vx
      exact ⟨a, rfl, .inl ⟨⟨vs, sqL_sub ok.g.sub (SqL.of q)⟩, en _ H0 H1 mm ok .refl .refl .refl (walks_list (SqL.of q) r)⟩⟩
    | scr ds =>
      obtain ⟨a, vs, rfl, q, r⟩ := vx
      exact ⟨a, rfl, .inl ⟨⟨vs, sqL_sub ok.g.sub q⟩, en _ H0 H1 mm ok .refl .refl .refl (walks_list q r)⟩⟩
    | tup ds =>
      obtain ⟨a, vs, rfl, q, r⟩ := vx
      exact ⟨a, rfl, .inr ⟨⟨vs, sqT_sub ok.g.sub q⟩, en _ H0 H1 mm ok .refl .refl .refl (walks_tup q r)⟩⟩
    | _ => exact en.elim
end
def rngD (lo : Int) (n : Nat) : List D := (List.range n).map fun i => .int (lo + (i : Nat))
theorem walks_rng {S : Sta} {K0 : Hp} {kk : List Addr} (lo : Int) (n : Nat) : Walks S (Itr lo n) (rngD lo n) K0 kk := fun i σ ρ μ H0 H mm ok s p => by
  unfold rngD
  refine ⟨fun d e => ?_, fun h => ?_⟩
  · rw [List.getElem?_map] at e
    by_cases hi : i < n
    · rw [List.getElem?_range hi] at e
      cases e
      refine ⟨hi, fun x H2 y => ?_⟩
      obtain ⟨rfl, rfl⟩ := y
      exact ⟨H0, ok, .refl, rfl⟩
    · rw [List.getElem?_eq_none (by rw [List.length_range]; omega)] at e
      cases e
  · rw [List.length_map, List.length_range] at h
    exact h
def iRng1V : List D → EF (List D)
  | [.int j], ρ, μ => if -(2 ^ 62) ≤ j ∧ j < 2 ^ 62 then .ok (rngD 0 j.toNat) ρ μ else .no
  | _, _, _ => .no
def iRng1 (t : EF (List D)) : EF (List D) := bnd t iRng1V
def iRng2V : List D → EF (List D)
  | [.int i, .int j], ρ, μ => if -(2 ^ 62) ≤ i ∧ i < 2 ^ 62 ∧ -(2 ^ 62) ≤ j ∧ j < 2 ^ 62 then .ok (rngD i (j - i).toNat) ρ μ else .no
  | _, _, _ => .no
def iRng2 (t : EF (List D)) : EF (List D) := bnd t iRng2V
section
variable {S : Sta} {W : WX} {X : Cx} {tg a b : Expr} {t : EF (List D)} {p pos : Pos}
theorem i_rng1 (hg : Gl X "range") (hm : X.mg "range" = none) (ha : PA X [a] (ra S W t)) (hs : starEach [a] X.env = [(false, eval a X.env)] := by rfl) : PI X tg (.Call (.Name "range" p) [a] [] pos) (ri S W (iRng1 t)) := by
  refine PI.weak (pi_range1 hg hm ha hs) fun σ H R h => ?_
  refine rd_mono (rk_push (k := knA S) stay0 (rk_start h)) fun vs H1 h1 => rk_go h1 fun G H0 mm ρ μ a pa ok en => ?_
  obtain ⟨_, ds⟩ := a
  have vd : Dps S H0 mm vs ds := pa.2
  replace en : EndK W (knI S) H0 H1 mm σ ρ R (iRng1V ds ρ μ) := en
  unfold iRng1V at en
  split at en
  · rename_i j
    obtain ⟨v, r, rfl, q1, q2⟩ := vd
    cases (show r = [] from q2)
    obtain rfl : v = .int j := q1
    split at en
    · rename_i hj
      exact ⟨j, rfl, hj.1, hj.2, en _ H0 H1 mm ok .refl .refl .refl (walks_rng 0 j.toNat)⟩
    · exact en.elim
  · exact en.elim
theorem i_rng2 (hg : Gl X "range") (hm : X.mg "range" = none) (ha : PA X [a, b] (ra S W t)) (hs : starEach [a, b] X.env = [(false, eval a X.env), (false, eval b X.env)] := by rfl) (hs2 : starEach [b] X.env = [(false, eval b X.env)] := by rfl) : PI X tg (.Call (.Name "range" p) [a, b] [] pos) (ri S W (iRng2 t)) := by
  refine PI.weak (pi_range2 hg hm ha hs hs2) fun σ H R h => ?_
  refine rd_mono (rk_push (k := knA S) stay0 (rk_start h)) fun vs H1 h1 => rk_go h1 fun G H0 mm ρ μ a pa ok en => ?_
  obtain ⟨_, ds⟩ := a
  have vd : Dps S H0 mm vs ds := pa.2
  replace en : EndK W (knI S) H0 H1 mm σ ρ R (iRng2V ds ρ μ) := en
  unfold iRng2V at en
  split at en
  · rename_i i j
    obtain ⟨v, r, rfl, q1, q2⟩ := vd
    obtain ⟨v2, r2, rfl, q3, q4⟩ := q2
    cases (show r2 = [] from q4)
    obtain rfl : v = .int i := q1
    obtain rfl : v2 = .int j := q3
    split at en
    · rename_i hj
      exact ⟨i, j, rfl, hj, en _ H0 H1 mm ok .refl .refl .refl (walks_rng i (j - i).toNat)⟩
    · exact en.elim
  · exact en.elim
end

/-! ### for -/
def okG (f : SF) : R Unit → SR
  | .ok _ ρ μ => f ρ μ
  | _ => .no
/-- behind a turn -/
def forK (f : SF) : SR → SR
  | .nx ρ μ => f ρ μ
  | .ct ρ μ => f ρ μ
  | .bk ρ μ => .nx ρ μ
  | r => r
def forD (tg : TF) (body : SF) : List D → SF
  | [], ρ, μ => .nx ρ μ
  | d :: ds, ρ, μ => okG (fun ρ μ => forK (forD tg body ds) (body ρ μ)) (tg d ρ μ)
def sFor (it : EF (List D)) (tg : TF) (body : SF) : SF := sBnd it (forD tg body)
section
variable {S : Sta} {W : WX} {X : Cx} {pos : Pos} {tg iter : Expr} {it : EF (List D)} {g : TF} {f : SF} {body : List Stmt}
/-- a turn's end, then the rest -/
theorem forK_end {σ0 : St} {H0 H : Hp} {mm : List Addr} {ρ0 : Env} {D : Ends} {N : St → Hp → Prop} {k : SF} {r : SR} (en : EndS (S := S) W H0 H mm σ0 ρ0 D (forK k r))
    (hN : ∀ (σ' : St) (H0' H' : Hp) (mm' : List Addr) (ρ' : Env) (μ' : Mu), Ok S H0' H' mm' μ' σ' ρ' → Nx (Own σ0 ρ0) H0 H mm H0' H' mm' → OwN H (Own σ0 ρ0) (Own σ' ρ') → EndS (S := S) W H0 H mm σ0 ρ0 D (k ρ' μ') → N σ' H') :
    EndS (S := S) W H0 H mm σ0 ρ0 { D with nx := N, ct := N, bk := D.nx } r := by
  cases r with
  | no => exact en
  | exc y ρ2 μ2 => exact en
  | rt d ρ2 μ2 => exact en
  | bk ρ2 μ2 => exact en
  | nx ρ2 μ2 => exact fun σ' H0' H' mm' ok nx ow => hN σ' H0' H' mm' ρ2 μ2 ok nx ow en
  | ct ρ2 μ2 => exact fun σ' H0' H' mm' ok nx ow => hN σ' H0' H' mm' ρ2 μ2 ok nx ow en
theorem s_for (hp : PassesOwn (model X.prog X.w) X.A X.env X.xe) (hc : X.calm = true) (hi : PI X tg iter (ri S W it)) (hg : PG X tg (rg S none g)) (hb : PSs X body (rs S W f)) (hs : ∀ x, foldedSetIterable iter X.env x = pure x := by intro _; rfl) :
    PS X (.For tg iter body [] pos) (rs S W (sFor it g f)) := by
  refine PS.weak (ps_for hp hc hi hg hb hs) fun D σ H h => ?_
  refine rd_mono (rs_bnd (k := knI S) h) fun J H1 h1 => ?_
  obtain ⟨H0p, Hp, mmp, ρp, H0, mm, ρ, μ, ds, ok, nx, ow, ho, wk, en⟩ := h1
  replace wk : Walks S J ds H0 mm := wk
  replace en := EndS.later nx ow en
  refine ⟨fun i m σ' H' => m = ds.length - i ∧ i ≤ ds.length ∧ ∃ H0' mm' ρ' μ', Ok S H0' H' mm' μ' σ' ρ' ∧ Sub H0 H0' ∧ Pre mm mm' ∧ EndS (S := S) W H0' H' mm' σ' ρ' D (forD g f (ds.drop i) ρ' μ'),
    ⟨ds.length, by simp, Nat.zero_le _, H0, mm, ρ, μ, ok, .refl, .refl, by simpa using en⟩, ?_⟩
  rintro i m σ' H' ⟨rfl, hi, H0', mm', ρ', μ', ok', s', p', en'⟩
  obtain ⟨w1, w2⟩ := wk i σ' ρ' μ' H0' H' mm' ok' s' p'
  by_cases hlt : i < ds.length
  · obtain ⟨go, yl⟩ := w1 ds[i] (List.getElem?_eq_getElem hlt)
    refine .inr ⟨go, fun σ2 H2 => ∃ H0' mm' ρ' μ', Ok S H0' H2 mm' μ' σ2 ρ' ∧ Sub H0 H0' ∧ Pre mm mm' ∧ EndS (S := S) W H0' H2 mm' σ2 ρ' D (forD g f (ds.drop (i + 1)) ρ' μ'),
      fun σ2 H2 q => ⟨ds.length - (i + 1), by omega, rfl, hlt, q⟩, fun x H2 y => ?_⟩
    obtain ⟨H02, ok2, nx2, dp⟩ := yl x H2 y
    refine ⟨H02, mm', ρ', μ', ds[i], ok2, dp, ?_⟩
    rw [List.drop_eq_getElem_cons hlt] at en'
    replace en' : EndS (S := S) W H0' H' mm' σ' ρ' D (okG (fun ρ μ => forK (forD g f (ds.drop (i + 1))) (f ρ μ)) (g ds[i] ρ' μ')) := en'
    replace en' := EndS.later nx2 .refl en'
    cases z : g ds[i] ρ' μ' with
    | no => rw [z] at en'; exact en'.elim
    | exc x ρ' μ' => rw [z] at en'; exact en'.elim
    | ok u ρ3 μ3 =>
      rw [z] at en'
      intro σ3 H03 H3 mm3 ok3 nx3 ow3 _ _
      refine ⟨H03, mm3, ρ3, μ3, ok3, ?_⟩
      refine forK_end (EndS.later nx3 ow3 en') fun σ4 H04 H4 mm4 ρ4 μ4 ok4 nx4 ow4 en4 => ⟨H04, mm4, ρ4, μ4, ok4, ?_, ?_, EndS.later nx4 ow4 en4⟩
      · exact ((s'.trans nx2.old0).trans nx3.old0).trans nx4.old0
      · exact (p'.trans nx3.pre).trans nx4.pre
  · have e : i = ds.length := by omega
    subst e
    rw [List.drop_length] at en'
    exact .inl ⟨w2 (Nat.le_refl _), en' σ' H0' H' mm' ok' .refl .refl⟩
end

/-! ### while -/
def whileD (c : EF Bool) (body : SF) : Nat → SF
  | 0, _, _ => .no
  | n + 1, ρ, μ => (sBnd c fun b => match b with
    | true => fun ρ μ => forK (whileD c body n) (body ρ μ)
    | false => sNil) ρ μ
open Classical in
/-- the turns are as many as it takes -/
noncomputable def sWhile (c : EF Bool) (body : SF) : SF := fun ρ μ => if h : ∃ n, whileD c body n ρ μ ≠ .no then whileD c body (choose h) ρ μ else .no
theorem whileD_mono {c : EF Bool} {body : SF} : ∀ {n m : Nat} {ρ : Env} {μ : Mu}, n ≤ m → whileD c body n ρ μ ≠ .no → whileD c body m ρ μ = whileD c body n ρ μ
  | 0, _, _, _, _, h => absurd rfl h
  | n + 1, 0, _, _, hl, _ => absurd hl (by omega)
  | n + 1, m + 1, ρ, μ, hl, h => by
    unfold whileD sBnd at h ⊢
    cases q : c ρ μ with
    | no => rfl
    | exc x ρ' μ' => rfl
    | ok b ρ' μ' =>
      rw [q] at h
      cases b with
      | false => rfl
      | true =>
        replace h : forK (whileD c body n) (body ρ' μ') ≠ .no := h
        show forK (whileD c body m) (body ρ' μ') = forK (whileD c body n) (body ρ' μ')
        cases q2 : body ρ' μ' with
        | nx ρ2 μ2 => rw [q2] at h; exact whileD_mono (Nat.le_of_succ_le_succ hl) h
        | ct ρ2 μ2 => rw [q2] at h; exact whileD_mono (Nat.le_of_succ_le_succ hl) h
        | _ => rfl
theorem sWhile_eq {c : EF Bool} {body : SF} {n : Nat} {ρ : Env} {μ : Mu} (h : whileD c body n ρ μ ≠ .no) : sWhile c body ρ μ = whileD c body n ρ μ := by
  have hx : ∃ n, whileD c body n ρ μ ≠ .no := ⟨n, h⟩
  unfold sWhile
  rw [dif_pos hx]
  have h2 := Classical.choose_spec hx
  rcases Nat.le_total n (Classical.choose hx) with l | l
  · exact whileD_mono l h
  · exact (whileD_mono l h2).symm
section
variable {S : Sta} {W : WX} {X : Cx} {pos : Pos} {c : Expr} {t : EF Bool} {f : SF} {body : List Stmt}
theorem s_while (hp : PassesOwn (model X.prog X.w) X.A X.env X.xe) (hc : PT X c (rt S W t)) (hb : PSs X body (rs S W f)) : PS X (.While c body [] pos) (rs S W (sWhile t f)) := by
  refine PS.weak (ps_while hp hc hb) fun D σ H h => ?_
  obtain ⟨H0, mm, ρ, μ, ok, en⟩ := h
  obtain ⟨n, hn⟩ : ∃ n, sWhile t f ρ μ = whileD t f n ρ μ := by
    by_cases hx : ∃ n, whileD t f n ρ μ ≠ .no
    · obtain ⟨n, hn⟩ := hx
      exact ⟨n, sWhile_eq hn⟩
    · refine ⟨0, ?_⟩
      unfold sWhile
      rw [dif_neg hx]
      rfl
  rw [hn] at en
  refine ⟨fun m σ' H' => ∃ H0' mm' ρ' μ', Ok S H0' H' mm' μ' σ' ρ' ∧ EndS (S := S) W H0' H' mm' σ' ρ' D (whileD t f m ρ' μ'), ⟨n, H0, mm, ρ, μ, ok, en⟩, ?_⟩
  rintro m σ' H' ⟨H0', mm', ρ', μ', ok', en'⟩
  cases m with
  | zero => exact en'.elim
  | succ m =>
    have h : rs S W (sBnd t fun b => match b with
      | true => fun ρ μ => forK (whileD t f m) (f ρ μ)
      | false => sNil) D σ' H' := ⟨H0', mm', ρ', μ', ok', en'⟩
    refine rd_mono (rs_bnd (k := knB S) h) fun b H1 h1 => ?_
    obtain ⟨H0p, Hp, mmp, ρp, H02, mm2, ρ2, μ2, b', ok2, nx2, ow2, ho2, va, en2⟩ := h1
    obtain rfl : b = b' := va
    replace en2 := EndS.later nx2 ow2 en2
    cases b with
    | false => rw [if_neg Bool.false_ne_true]; exact en2 σ' H02 H1 mm2 ok2 .refl .refl
    | true =>
      rw [if_pos rfl]
      refine ⟨fun σ3 H3 => ∃ H0' mm' ρ' μ', Ok S H0' H3 mm' μ' σ3 ρ' ∧ EndS (S := S) W H0' H3 mm' σ3 ρ' D (whileD t f m ρ' μ'), fun σ3 H3 q => ⟨m, Nat.lt_succ_self _, q⟩, H02, mm2, ρ2, μ2, ok2, ?_⟩
      exact forK_end en2 fun σ4 H04 H4 mm4 ρ4 μ4 ok4 nx4 ow4 en4 => ⟨H04, mm4, ρ4, μ4, ok4, EndS.later nx4 ow4 en4⟩
end
end DL
set_option maxRecDepth 100000
set_option maxHeartbeats 1000000
/-! List comprehensions. -/
namespace DL
open PySem PySem.Spec L2 NdefX

/-- the block's own slots, emptied -/
def wipeR (ρ : Env) : List Nat → Env
  | [] => ρ
  | v :: vs => (wipeR ρ vs).set v .un
theorem wipeR_length (ρ : Env) : ∀ vs : List Nat, (wipeR ρ vs).length = ρ.length
  | [] => rfl
  | v :: vs => by unfold wipeR; rw [List.length_set, wipeR_length ρ vs]
theorem wipeR_some {ρ : Env} {i : Nat} {s : Sl} (hs : s ≠ .un) : ∀ {vs : List Nat}, (wipeR ρ vs)[i]? = some s → ρ[i]? = some s ∧ i ∉ vs
  | [], h => ⟨h, by simp⟩
  | v :: vs, h => by
    rcases set_cases (show ((wipeR ρ vs).set v .un)[i]? = some s from h) with ⟨_, e, _⟩ | ⟨hi, e⟩
    · exact absurd e hs
    · obtain ⟨h1, h2⟩ := wipeR_some hs e
      exact ⟨h1, by simp only [List.mem_cons, not_or]; exact ⟨hi, h2⟩⟩
theorem wipe_at {σ : St} {i : Nat} : ∀ {vs : List Nat}, i ∉ vs → (wipe σ vs)[i]? = σ[i]? := wipe_out
theorem wipeR_at {ρ : Env} {i : Nat} : ∀ {vs : List Nat}, i ∉ vs → (wipeR ρ vs)[i]? = ρ[i]?
  | [], _ => rfl
  | v :: vs, h => by
    simp only [List.mem_cons, not_or] at h
    unfold wipeR
    rw [List.getElem?_set_ne (Ne.symm h.1)]
    exact wipeR_at h.2
/-- the slots vs as they were in ρ, the others as in ρ' -/
def backR (ρ ρ' : Env) : List Nat → Env
  | [] => ρ'
  | v :: vs => (backR ρ ρ' vs).set v (ρ[v]?.getD .un)
/-- no slot of vs holds a thing alone -/
def noOw (ρ : Env) (vs : List Nat) : Bool := vs.all fun v => match ρ[v]? with
  | some (.ow _) => false
  | _ => true
section
variable {S : Sta} {H0 H H0' H' : Hp} {mm mm' : List Addr} {μ μ' : Mu} {σ : St} {ρ ρ' : Env} {vs : List Nat}
theorem own_wipe {a : Addr} (h : Own (wipe σ vs) (wipeR ρ vs) a) : Own σ ρ a := by
  obtain ⟨i, d, e1, e2⟩ := h
  obtain ⟨e3, hi⟩ := wipeR_some (by intro z; cases z) e1
  rw [wipe_at hi] at e2
  exact ⟨i, d, e3, e2⟩
theorem Ok.wipe (ok : Ok S H0 H mm μ σ ρ) : Ok S H0 H mm μ (wipe σ vs) (wipeR ρ vs) := by
  refine ⟨ok.g, by rw [wipe_length, wipeR_length]; exact ok.e.len, fun i s e => ?_, fun i j a d d' hij e1 e2 f1 f2 => ?_⟩
  · by_cases hs : s = .un
    · rw [hs]; trivial
    · obtain ⟨e3, hi⟩ := wipeR_some hs e
      rw [wipe_at hi]
      exact ok.e.at_ i s e3
  · obtain ⟨g1, h1⟩ := wipeR_some (by intro z; cases z) e1
    obtain ⟨g2, h2⟩ := wipeR_some (by intro z; cases z) e2
    rw [wipe_at h1] at f1
    rw [wipe_at h2] at f2
    exact ok.e.sep i j a d d' hij g1 g2 f1 f2
theorem own_unwipe {a : Addr} (no : noOw ρ vs = true) (h : Own σ ρ a) : Own (L2.wipe σ vs) (wipeR ρ vs) a := by
  obtain ⟨i, d, e1, e2⟩ := h
  have hi : i ∉ vs := fun z => by
    have q := List.all_eq_true.mp no i z
    rw [e1] at q
    cases q
  exact ⟨i, d, by rw [wipeR_at hi]; exact e1, by rw [wipe_at hi]; exact e2⟩
theorem backR_length : ∀ vs : List Nat, (backR ρ ρ' vs).length = ρ'.length
  | [] => rfl
  | v :: vs => by unfold backR; rw [List.length_set, backR_length vs]
theorem backR_cases {i : Nat} {s : Sl} : ∀ {vs : List Nat}, (backR ρ ρ' vs)[i]? = some s → (i ∈ vs ∧ s = ρ[i]?.getD .un) ∨ (i ∉ vs ∧ ρ'[i]? = some s)
  | [], h => .inr ⟨by simp, h⟩
  | v :: vs, h => by
    rcases set_cases (show ((backR ρ ρ' vs).set v _)[i]? = some s from h) with ⟨rfl, e, _⟩ | ⟨hi, e⟩
    · exact .inl ⟨by simp, e⟩
    · rcases backR_cases e with ⟨h1, h2⟩ | ⟨h1, h2⟩
      · exact .inl ⟨by simp [h1], h2⟩
      · exact .inr ⟨by simp [h1, hi], h2⟩
theorem backR_own {a : Addr} (no : noOw ρ vs = true) {i : Nat} {d : D} (h : (backR ρ ρ' vs)[i]? = some (.ow d)) : i ∉ vs ∧ ρ'[i]? = some (.ow d) := by
  rcases backR_cases h with ⟨h1, h2⟩ | h1
  · have q := List.all_eq_true.mp no i h1
    cases e : ρ[i]? with
    | none => rw [e] at h2; cases h2
    | some s =>
      rw [e] at h2 q
      cases h2
      cases q
  · exact h1
/-- behind a block -/
theorem Ok.back (ok0 : Ok S H0 H mm μ σ ρ) (no : noOw ρ vs = true) (ok : Ok S H0' H' mm' μ' (L2.wipe σ vs) ρ') (nx : Nx (Own (L2.wipe σ vs) (wipeR ρ vs)) H0 H mm H0' H' mm') : Ok S H0' H' mm' μ' σ (backR ρ ρ' vs) := by
  have hl : ρ'.length = ρ.length := by rw [← ok.e.len, wipe_length]; exact ok0.e.len
  refine ⟨ok.g, by rw [backR_length, hl]; exact ok0.e.len, fun i s e => ?_, fun i j a d d' hij e1 e2 f1 f2 => ?_⟩
  · rcases backR_cases e with ⟨h1, h2⟩ | ⟨h1, h2⟩
    · cases e3 : ρ[i]? with
      | none => rw [e3] at h2; rw [h2]; trivial
      | some s' =>
        rw [e3] at h2
        cases h2
        have q := ok0.e.at_ i s' e3
        cases s' with
        | un => trivial
        | fz d =>
          obtain ⟨v, ev, q⟩ := q
          exact ⟨v, ev, Dp.nx nx q⟩
        | ow d =>
          have q := List.all_eq_true.mp no i h1
          rw [e3] at q
          cases q
    · have q := ok.e.at_ i s h2
      rw [wipe_at h1] at q
      exact q
  · obtain ⟨h1, g1⟩ := backR_own (a := a) no e1
    obtain ⟨h2, g2⟩ := backR_own (a := a) no e2
    exact ok.e.sep i j a d d' hij g1 g2 (by rw [wipe_at h1]; exact f1) (by rw [wipe_at h2]; exact f2)
theorem own_back {a : Addr} (no : noOw ρ vs = true) (h : Own σ (backR ρ ρ' vs) a) : Own (L2.wipe σ vs) ρ' a := by
  obtain ⟨i, d, e1, e2⟩ := h
  obtain ⟨h1, g1⟩ := backR_own (a := a) no e1
  exact ⟨i, d, g1, by rw [wipe_at h1]; exact e2⟩
theorem Nx.unwipe (no : noOw ρ vs = true) (nx : Nx (Own (L2.wipe σ vs) (wipeR ρ vs)) H0 H mm H0' H' mm') : Nx (Own σ ρ) H0 H mm H0' H' mm' :=
  ⟨nx.old0, fun a h n => nx.new0 a h fun z => n (own_wipe z), fun a o e h n t => nx.keep a o e h (fun z => n (own_wipe z)) t, nx.grow, nx.mmx⟩
theorem Nx.rewipe (no : noOw ρ vs = true) (nx : Nx (Own σ ρ) H0 H mm H0' H' mm') : Nx (Own (L2.wipe σ vs) (wipeR ρ vs)) H0 H mm H0' H' mm' :=
  ⟨nx.old0, fun a h n => nx.new0 a h fun z => n (own_unwipe no z), fun a o e h n t => nx.keep a o e h (fun z => n (own_unwipe no z)) t, nx.grow, nx.mmx⟩
theorem hold_back (ok0 : Ok S H0 H mm μ σ ρ) (ho : Hold (wipeR ρ vs) ρ') (hl : ρ'.length = ρ.length) : Hold ρ (backR ρ ρ' vs) := fun i s e hs => by
  have hi : i < ρ.length := (List.getElem?_eq_some_iff.mp e).1
  have hb : i < (backR ρ ρ' vs).length := by rw [backR_length, hl]; exact hi
  refine ⟨(backR ρ ρ' vs)[i], List.getElem?_eq_getElem hb, fun z => ?_⟩
  have e2 : (backR ρ ρ' vs)[i]? = some .un := by rw [List.getElem?_eq_getElem hb, z]
  rcases backR_cases e2 with ⟨h1, h2⟩ | ⟨h1, h2⟩
  · rw [e] at h2
    exact hs h2.symm
  · obtain ⟨s', e3, n⟩ := ho i s (by rw [wipeR_at h1]; exact e) hs
    rw [h2] at e3
    cases e3
    exact n rfl
end
/-- the rest of a turn, by the truth of its tests -/
def compV (k : Option D → EF (List D)) : Vl → EF (List D)
  | .val d => k (some d)
  | _ => stuck
def compE (elt : EF Vl) (k : Option D → EF (List D)) : Bool → EF (List D)
  | true => bnd (gFrz elt) (compV k)
  | false => k none
def wipeE {α : Type} (vs : List Nat) (f : EF α) : EF α := fun ρ μ => f (wipeR ρ vs) μ
def addD (acc : List D) : Option D → List D
  | some d => acc ++ [d]
  | none => acc
/-- the items one by one: acc what is made so far -/
def compD (vs : List Nat) (tg : TF) (cnd : EF Bool) (elt : EF Vl) : List D → List D → EF (List D)
  | [], acc => ret acc
  | d :: ds, acc => bnd (tg d) fun _ => bnd cnd (compE elt fun o => if acc.length < sizeLine then wipeE vs (compD vs tg cnd elt ds (addD acc o)) else stuck)
/-- only data, no exception -/
def nox {α : Type} (f : EF α) : EF α := fun ρ μ => match f ρ μ with
  | .ok a ρ' μ' => .ok a ρ' μ'
  | _ => .no
def blkE (vs : List Nat) (f : EF (List D)) : EF Vl := fun ρ μ => match noOw ρ vs with
  | true => (match f (wipeR ρ vs) μ with
    | .ok out ρ' μ' => .ok (.frs (.lst out)) (backR ρ ρ' vs) μ'
    | _ => .no)
  | false => .no
def gLc (vs : List Nat) (it : EF (List D)) (tg : TF) (cnd : EF Bool) (elt : EF Vl) : EF Vl := bnd it fun ds => blkE vs (compD vs tg cnd elt ds [])

section
variable {S : Sta} {σ σ' : St} {vs : List Nat}
theorem wipe_only (h : OnlyAt (some vs) (L2.wipe σ vs) σ') : L2.wipe σ' vs = L2.wipe σ vs := by
  apply List.ext_getElem?
  intro i
  by_cases hi : i ∈ vs
  · have key : ∀ (τ : St) (l : List Nat), i ∈ l → i < τ.length → (L2.wipe τ l)[i]? = some none := by
      intro τ l
      induction l with
      | nil => intro h; cases h
      | cons v l ih =>
        intro hm hl
        show ((L2.wipe τ l).set v none)[i]? = _
        by_cases hv : v = i
        · subst hv
          rw [List.getElem?_set_self (by rw [wipe_length]; exact hl)]
        · rw [List.getElem?_set_ne hv]
          rcases List.mem_cons.mp hm with z | z
          · exact absurd z.symm hv
          · exact ih z hl
    have hl : σ'.length = σ.length := h.1.trans (wipe_length σ vs)
    by_cases hlt : i < σ.length
    · rw [key σ' vs hi (by rw [hl]; exact hlt), key σ vs hi hlt]
    · rw [List.getElem?_eq_none (by rw [wipe_length, hl]; omega), List.getElem?_eq_none (by rw [wipe_length]; omega)]
  · rw [wipe_at hi]
    exact h.2 i hi
end
/-! ### an object that is being filled: tracked, not frozen, nobody's -/
structure Pin (H0 H : Hp) (mm : List Addr) (σ : St) (ρ : Env) (A : Addr) (xs : List V) : Prop where
  at_ : H A = some (.lst xs)
  h0 : H0 A = none
  mm : A ∉ mm
  own : ¬ Own σ ρ A
section
variable {S : Sta} {H0 H H0' H' : Hp} {mm mm' : List Addr} {μ μ' : Mu} {σ σ' : St} {ρ ρ' : Env} {A : Addr} {xs ys : List V} {O : Addr → Prop}
theorem Pin.nx (p : Pin H0 H mm σ ρ A xs) (n : Nx (Own σ ρ) H0 H mm H0' H' mm') (w : OwN H (Own σ ρ) (Own σ' ρ')) : Pin H0' H' mm' σ' ρ' A xs := by
  have hn : H A ≠ none := by rw [p.at_]; simp
  refine ⟨n.keep A _ p.at_ p.mm p.own (fun _ z => by cases z), by rw [n.new0 A hn p.own]; exact p.h0, fun z => ?_, fun z => (w A z).elim p.own hn⟩
  obtain ⟨more, e1, e2⟩ := n.mmx
  rw [e1] at z
  rcases List.mem_append.mp z with z | z
  · exact p.mm z
  · exact hn (e2 A z)
theorem tabs_put {T : Tbl} {o u : HO} (t : LamX.Tabs T H) (e : H A = some o) (h1 : ∀ ps, o ≠ .tbl ps) (h2 : ∀ c q, o ≠ LamX.CodeO c q) : LamX.Tabs T (upd H A u) := fun p hp => by
  obtain ⟨ps, a, b, c⟩ := t p hp
  refine ⟨ps, by rw [upd_ne]; exact a; intro z; rw [z, e] at a; cases a; exact h1 _ rfl, b, fun pos cv h => ?_⟩
  obtain ⟨x, e1, e2⟩ := c pos cv h
  refine ⟨x, e1, ?_⟩
  rw [upd_ne]
  · exact e2
  · intro z
    rw [z, e] at e2
    cases e2
    exact h2 _ _ rfl
theorem Ok.pin_put (ok : Ok S H0 H mm μ σ ρ) (p : Pin H0 H mm σ ρ A xs) : Ok S H0 (upd H A (.lst ys)) mm μ σ ρ := by
  have nm : ∀ {a : Addr}, a ∈ mm → a ≠ A := fun {a} h z => p.mm (by rw [← z]; exact h)
  refine ⟨⟨fun b o e => ?_, ⟨ok.g.mu.len, ok.g.mu.nd, fun k a m e1 e2 => (ok.g.mu.at_ k a m e1 e2).mono .refl .refl (upd_ne (nm (List.mem_of_getElem? e1))), ok.g.mu.h0⟩, tabs_put ok.g.tab p.at_ (fun _ z => by cases z) (fun _ _ z => by unfold LamX.CodeO at z; cases z), ok.g.nt⟩, ok.e.len, fun i s e => ?_, ok.e.sep⟩
  · rw [upd_ne fun z => by rw [z, p.h0] at e; cases e]
    exact ok.g.sub _ _ e
  · have q := ok.e.at_ i s e
    cases s with
    | un => trivial
    | fz d => exact q
    | ow d =>
      obtain ⟨b, ev, n0, nm2, q⟩ := q
      refine ⟨b, ev, n0, nm2, q.mono .refl .refl (upd_ne fun z => p.own ⟨i, d, e, by rw [← z]; exact ev⟩)⟩
theorem Nx.put_new {o : HO} (n : Nx O H0 H mm H0' H' mm') (e : H A = none) : Nx O H0 H mm H0' (upd H' A o) mm' :=
  ⟨n.old0, n.new0, fun a u h1 h2 h3 h4 => by rw [upd_ne (ne_of_none h1 e)]; exact n.keep a u h1 h2 h3 h4, fun a h => by
    by_cases z : a = A
    · rw [z, upd_same]; simp
    · rw [upd_ne z]; exact n.grow a h, n.mmx⟩
theorem Hold.wipe {vs : List Nat} (h : Hold (wipeR ρ vs) ρ') : Hold (wipeR ρ vs) (wipeR ρ' vs) := fun i s e hs => by
  obtain ⟨_, hi⟩ := wipeR_some (fun z => hs z) e
  obtain ⟨s', e', h'⟩ := h i s e hs
  exact ⟨s', by rw [wipeR_at hi]; exact e', h'⟩
end
/-- .. with its own end: no exception -/
abbrev W0 : WX := fun _ _ _ _ => False
section
variable {S : Sta} {W : WX} {X : Cx} {pos : Pos} {tg iter elt : Expr} {ifs : List Expr} {scope : Scope} {own : List (Str × Nat)} {it : EF (List D)} {g : TF} {cnd : EF Bool} {ge : EF Vl}
theorem t_lc {σ : St} {H : Hp} {Q : VK} {vs : List Nat} (h : rd S W (gLc vs it g cnd ge) σ H Q) : tLc (ri S W it) (rg S (some vs) g) (rt S W0 cnd) (rd S W0 (gFrz ge)) vs σ H Q := by
  refine rd_mono (rk_push (k := knI S) stay0 (rk_start h)) fun J H1 h1 => ?_
  obtain ⟨H0p, Hp, mmp, ρp, H0, mm, ρ, μ, ⟨_, ds⟩, ok, nx, ow, ho, ⟨_, wk⟩, en⟩ := h1
  replace wk : Walks S J ds H0 mm := wk
  replace en : EndV S W H0p Hp mmp σ ρp Q (blkE vs (compD vs g cnd ge ds []) ρ μ) := en
  intro A hA
  cases no : noOw ρ vs with
  | false =>
    unfold blkE at en
    rw [no] at en
    exact en.elim
  | true =>
    have en2 : EndV S W H0p Hp mmp σ ρp Q (match compD vs g cnd ge ds [] (wipeR ρ vs) μ with
      | .ok out ρ' μ' => .ok (.frs (.lst out)) (backR ρ ρ' vs) μ'
      | _ => .no) := by
      unfold blkE at en
      rw [no] at en
      exact en
    have hA0 : H0 A = none := by
      cases e : H0 A with
      | none => rfl
      | some u => rw [ok.g.sub _ _ e] at hA; cases hA
    have noA : ¬ Own σ ρ A := fun z => ok.own_there z hA
    -- what holds between two turns
    refine ⟨fun i m H2 => m = ds.length - i ∧ i ≤ ds.length ∧ ∃ acc vacc H02 mm2 ρ2 μ2, Ok S H02 H2 mm2 μ2 (L2.wipe σ vs) ρ2 ∧ Nx (Own (L2.wipe σ vs) (wipeR ρ vs)) H0 H1 mm H02 H2 mm2 ∧ OwN H1 (Own (L2.wipe σ vs) (wipeR ρ vs)) (Own (L2.wipe σ vs) ρ2) ∧ Hold (wipeR ρ vs) ρ2 ∧
        Pin H02 H2 mm2 (L2.wipe σ vs) ρ2 A vacc ∧ Dps S H02 mm2 vacc acc ∧ compD vs g cnd ge ds [] (wipeR ρ vs) μ = compD vs g cnd ge (ds.drop i) acc ρ2 μ2,
      ⟨ds.length, by simp, Nat.zero_le _, [], [], H0, mm, wipeR ρ vs, μ, (ok.made hA).wipe, Nx.made hA, .refl, .refl, ⟨upd_same, hA0, fun z => ok.ne hA z rfl, fun z => noA (own_wipe z)⟩, rfl, by simp⟩, ?_⟩
    rintro i m H2 ⟨rfl, hi, acc, vacc, H02, mm2, ρ2, μ2, ok2, nx2, ow2, ho2, pin2, dA2, eq2⟩
    obtain ⟨w1, w2⟩ := wk i _ ρ2 μ2 H02 H2 mm2 ok2 nx2.old0 nx2.pre
    by_cases hlt : i < ds.length
    · obtain ⟨go, yl⟩ := w1 ds[i] (List.getElem?_eq_getElem hlt)
      rw [List.drop_eq_getElem_cons hlt] at eq2
      -- the whole does not stop here
      have nst : compD vs g cnd ge (ds[i] :: ds.drop (i + 1)) acc ρ2 μ2 ≠ .no ∧ ∀ x ρ' μ', compD vs g cnd ge (ds[i] :: ds.drop (i + 1)) acc ρ2 μ2 ≠ .exc x ρ' μ' := by
        constructor
        · intro z
          rw [eq2, z] at en2
          exact en2.elim
        · intro x ρ' μ' z
          rw [eq2, z] at en2
          exact en2.elim
      refine .inr ⟨go, fun H3 => ∃ acc vacc H02 mm2 ρ2 μ2, Ok S H02 H3 mm2 μ2 (L2.wipe σ vs) ρ2 ∧ Nx (Own (L2.wipe σ vs) (wipeR ρ vs)) H0 H1 mm H02 H3 mm2 ∧ OwN H1 (Own (L2.wipe σ vs) (wipeR ρ vs)) (Own (L2.wipe σ vs) ρ2) ∧ Hold (wipeR ρ vs) ρ2 ∧
        Pin H02 H3 mm2 (L2.wipe σ vs) ρ2 A vacc ∧ Dps S H02 mm2 vacc acc ∧ compD vs g cnd ge ds [] (wipeR ρ vs) μ = compD vs g cnd ge (ds.drop (i + 1)) acc ρ2 μ2, fun H3 q => ⟨ds.length - (i + 1), by omega, rfl, hlt, q⟩, fun x H3 y => ?_⟩
      obtain ⟨H03, ok3, nx3, dp⟩ := yl x H3 y
      have pin3 := pin2.nx nx3 (.refl (O := Own (L2.wipe σ vs) ρ2))
      have nxb3 := nx2.trans ow2 nx3
      refine ⟨H03, mm2, ρ2, μ2, ds[i], ok3, dp, ?_⟩
      have eq3 : compD vs g cnd ge (ds[i] :: ds.drop (i + 1)) acc ρ2 μ2 = bnd (g ds[i]) (fun _ => bnd cnd (compE ge fun o => if acc.length < sizeLine then wipeE vs (compD vs g cnd ge (ds.drop (i + 1)) (addD acc o)) else stuck)) ρ2 μ2 := by
        rw [compD] <;> rfl
      rw [eq3] at nst eq2
      unfold bnd at nst eq2
      cases q3 : g ds[i] ρ2 μ2 with
      | no => rw [q3] at nst; exact (nst.1 rfl).elim
      | exc x ρ' μ' => rw [q3] at nst; exact (nst.2 x ρ' μ' rfl).elim
      | ok u ρ3 μ3 =>
        rw [q3] at nst eq2
        intro σ3 H04 H4 mm4 ok4 nx4 ow4 oa4 ho4
        have hw := wipe_only oa4
        have pin4 := pin3.nx nx4 ow4
        have nxb4 := nxb3.trans ow2 nx4
        have owb4 := OwN.trans nxb3 ow2 ow4
        refine ⟨hw, H04, mm4, ρ3, μ3, ok4, ?_⟩
        replace nst : bnd cnd (compE ge fun o => if acc.length < sizeLine then wipeE vs (compD vs g cnd ge (ds.drop (i + 1)) (addD acc o)) else stuck) ρ3 μ3 ≠ .no ∧ ∀ x ρ' μ', bnd cnd (compE ge fun o => if acc.length < sizeLine then wipeE vs (compD vs g cnd ge (ds.drop (i + 1)) (addD acc o)) else stuck) ρ3 μ3 ≠ .exc x ρ' μ' := nst
        replace eq2 : compD vs g cnd ge ds [] (wipeR ρ vs) μ = bnd cnd (compE ge fun o => if acc.length < sizeLine then wipeE vs (compD vs g cnd ge (ds.drop (i + 1)) (addD acc o)) else stuck) ρ3 μ3 := eq2
        unfold bnd at nst eq2
        cases q4 : cnd ρ3 μ3 with
        | no => rw [q4] at nst; exact (nst.1 rfl).elim
        | exc x ρ' μ' => rw [q4] at nst; exact (nst.2 x ρ' μ' rfl).elim
        | ok b ρ5 μ5 =>
          rw [q4] at nst eq2
          intro b' H05 H5 mm5 ok5 nx5 ow5 ho5 hb
          obtain rfl : b' = b := hb
          have pin5 := pin4.nx nx5 ow5
          have nxb5 := nxb4.trans owb4 nx5
          have owb5 := OwN.trans nxb4 owb4 ow5
          have dA5 : Dps S H05 mm5 vacc acc := ((dA2.nx nx3).nx nx4).nx nx5
          cases b' with
          | false =>
            rw [if_neg Bool.false_ne_true]
            replace nst : (if acc.length < sizeLine then wipeE vs (compD vs g cnd ge (ds.drop (i + 1)) acc) else stuck) ρ5 μ5 ≠ .no := nst.1
            replace eq2 : compD vs g cnd ge ds [] (wipeR ρ vs) μ = (if acc.length < sizeLine then wipeE vs (compD vs g cnd ge (ds.drop (i + 1)) acc) else stuck) ρ5 μ5 := eq2
            by_cases hl : acc.length < sizeLine
            · rw [if_pos hl] at eq2
              refine ⟨acc, vacc, H05, mm5, wipeR ρ5 vs, μ5, by rw [← hw]; exact ok5.wipe, nxb5, fun a h => owb5 a ?_, (ho2.trans (ho4.trans ho5)).wipe, ⟨pin5.at_, pin5.h0, pin5.mm, fun z => pin5.own ?_⟩, dA5, eq2⟩
              · rw [← hw] at h; exact own_wipe h
              · rw [← hw] at z; exact own_wipe z
            · rw [if_neg hl] at nst
              exact (nst rfl).elim
          | true =>
            rw [if_pos rfl]
            refine ⟨H05, mm5, ρ5, μ5, ok5, ?_⟩
            replace nst : bnd (gFrz ge) (compV (fun o => if acc.length < sizeLine then wipeE vs (compD vs g cnd ge (ds.drop (i + 1)) (addD acc o)) else stuck)) ρ5 μ5 ≠ .no ∧ ∀ x ρ' μ', bnd (gFrz ge) (compV (fun o => if acc.length < sizeLine then wipeE vs (compD vs g cnd ge (ds.drop (i + 1)) (addD acc o)) else stuck)) ρ5 μ5 ≠ .exc x ρ' μ' := nst
            replace eq2 : compD vs g cnd ge ds [] (wipeR ρ vs) μ = bnd (gFrz ge) (compV (fun o => if acc.length < sizeLine then wipeE vs (compD vs g cnd ge (ds.drop (i + 1)) (addD acc o)) else stuck)) ρ5 μ5 := eq2
            unfold bnd at nst eq2
            cases q6 : gFrz ge ρ5 μ5 with
            | no => rw [q6] at nst; exact (nst.1 rfl).elim
            | exc x ρ' μ' => rw [q6] at nst; exact (nst.2 x ρ' μ' rfl).elim
            | ok y6 ρ6 μ6 =>
              rw [q6] at nst eq2
              intro y H06 H6 mm6 ok6 nx6 ow6 ho6 dy
              cases y6 with
              | frs d => exact (nst.1 rfl).elim
              | slt j => exact (nst.1 rfl).elim
              | val d =>
                have dy : Dp S H06 mm6 y d := dy
                have pin6 := pin5.nx nx6 ow6
                have nxb6 := nxb5.trans owb5 nx6
                have owb6 := OwN.trans nxb5 owb5 ow6
                have dA6 := dA5.nx nx6
                replace nst : (if acc.length < sizeLine then wipeE vs (compD vs g cnd ge (ds.drop (i + 1)) (acc ++ [d])) else stuck) ρ6 μ6 ≠ .no := nst.1
                replace eq2 : compD vs g cnd ge ds [] (wipeR ρ vs) μ = (if acc.length < sizeLine then wipeE vs (compD vs g cnd ge (ds.drop (i + 1)) (acc ++ [d])) else stuck) ρ6 μ6 := eq2
                by_cases hl : acc.length < sizeLine
                · rw [if_pos hl] at eq2
                  refine ⟨vacc, pin6.at_, by rw [dA6.length]; exact hl, acc ++ [d], vacc ++ [y], H06, mm6, wipeR ρ6 vs, μ6, by rw [← hw]; exact (ok6.pin_put pin6).wipe, nxb6.put_new hA, fun a h => owb6 a ?_, (ho2.trans (ho4.trans (ho5.trans ho6))).wipe, ⟨upd_same, pin6.h0, pin6.mm, fun z => pin6.own ?_⟩, dA6.append ⟨y, [], rfl, dy, rfl⟩, eq2⟩
                  · rw [← hw] at h; exact own_wipe h
                  · rw [← hw] at z; exact own_wipe z
                · rw [if_neg hl] at nst
                  exact (nst rfl).elim
    · have e : i = ds.length := by omega
      subst e
      rw [List.drop_length] at eq2
      refine .inl ⟨w2 (Nat.le_refl _), ?_⟩
      rw [eq2] at en2
      refine en2 (.ref A) H02 H2 mm2 (Ok.back ok no ok2 nx2) (nx.trans ow (nx2.unwipe no)) (fun b hb => ?_) (ho.trans (hold_back ok ho2 ?_)) ⟨A, rfl, nx.back A hA, pin2.h0, pin2.mm, fun z => pin2.own (own_back no z), vacc, pin2.at_, dA2⟩
      · rcases ow2 b (own_back no hb) with z | z
        · exact ow b (own_wipe z)
        · exact .inr (nx.back b z)
      · rw [← ok2.e.len, wipe_length]
        exact ok.e.len
end
end DL
set_option maxRecDepth 100000
set_option maxHeartbeats 1000000
/-! Comprehensions as expressions; defs and their calls. -/
namespace DL
open PySem PySem.Spec L2 NdefX
open PyProof.Rows (envOfC)

section
variable {S : Sta} {W : WX} {X : Cx} {pos : Pos} {tg iter elt : Expr} {ifs : List Expr} {scope : Scope} {own : List (Str × Nat)} {it : EF (List D)} {g : TF} {cnd : EF Bool} {ge : EF Vl}
def tYesB : EF Bool := ret true
theorem c_nil {X : Cx} : PTs X [] (rt S W0 tYesB) := by
  refine ⟨fun pins s σ H Q I h => pts_nil.run pins s σ H Q I ?_⟩
  obtain ⟨H0, mm, ρ, μ, ok, en⟩ := h
  exact en true H0 H mm ok .refl .refl .refl rfl
theorem c_one {X : Cx} {c : Expr} {t : EF Bool} (h : PT X c (rt S W0 t)) : PTs X [c] (rt S W0 t) := pts_one h
/-- [elt for tg in iter if ..] -/
theorem e_lc (hc : X.calm = true) (hN : X.N.Nodup) (hi : PI X tg iter (ri S W it)) (ok : blkC X.N X.env.scope scope own = true)
    (hg : ∀ (s : Shared) (H : Hp) (C : Addr) (cl : List (Str × Addr)) (fp : List Addr), PG (X.blk s H scope (compEnvC scope cl C X.env) fp) tg (rg S (some (own.map (·.2))) g)) (ht : ∀ (s : Shared) (H : Hp) (C : Addr) (cl : List (Str × Addr)) (fp : List Addr), PTs (X.blk s H scope (compEnvC scope cl C X.env) fp) ifs (rt S W0 cnd))
    (he : ∀ (s : Shared) (H : Hp) (C : Addr) (cl : List (Str × Addr)) (fp : List Addr), PE (X.blk s H scope (compEnvC scope cl C X.env) fp) elt (rd S W0 ge)) (hs : ∀ x, foldedSetIterable iter X.env x = pure x := by intro _; rfl) :
    PE X (.ListComp elt [⟨tg, iter, ifs, 0⟩] scope pos) (rd S W (gLc (own.map (·.2)) it g cnd ge)) :=
  PE.weak (pe_lc hc hN hi (blkOk_by ok) hg ht (fun s H C cl fp => e_frz (he s H C cl fp)) hs) fun _ _ _ => t_lc
/-- y = [..] -/
theorem s_setLc {i : Nat} {y : Str} {py : Pos} {spos : Pos} (hc : X.calm = true) (hN : X.N.Nodup) (hy : X.N[i]? = some y) (hyl : X.env.scope.names.lookup y = some .local)
    (hsw : swapsWith (.ListComp elt [⟨tg, iter, ifs, 0⟩] scope pos) (some (.Name y py)) spos.line X.env = pure true) (hi : PI X tg iter (ri S W it)) (ok : blkC X.N X.env.scope scope own = true)
    (hg : ∀ (s : Shared) (H : Hp) (C : Addr) (cl : List (Str × Addr)) (fp : List Addr), PG (X.blk s H scope (compEnvC scope cl C X.env) fp) tg (rg S (some (own.map (·.2))) g)) (ht : ∀ (s : Shared) (H : Hp) (C : Addr) (cl : List (Str × Addr)) (fp : List Addr), PTs (X.blk s H scope (compEnvC scope cl C X.env) fp) ifs (rt S W0 cnd))
    (he : ∀ (s : Shared) (H : Hp) (C : Addr) (cl : List (Str × Addr)) (fp : List Addr), PE (X.blk s H scope (compEnvC scope cl C X.env) fp) elt (rd S W0 ge)) (hs : ∀ x, foldedSetIterable iter X.env x = pure x := by intro _; rfl) :
    PS X (.Assign [.Name y py] (.ListComp elt [⟨tg, iter, ifs, 0⟩] scope pos) spos) (rs S W (sSet i (gLc (own.map (·.2)) it g cnd ge))) :=
  PS.weak (ps_setLc hc hN hy hyl hsw hi (blkOk_by ok) hg ht (fun s H C cl fp => e_frz (he s H C cl fp)) hs) fun D σ H h => by
    refine t_lc (rd_mono (rs_bnd (k := knV S) h) fun v H1 ⟨H0p, Hp, mmp, ρp, H0, mm, ρ, μ, a, ok, nx, ow, ho, va, en⟩ => put_go ok nx ow va en)
end

/-! ### defs -/
/-- what a def makes of data -/
inductive RF where
  | ok (d : D) (μ : Mu) | exc (x : Exn) (μ : Mu) | no
abbrev DF := List D → Mu → RF
/-- its promise -/
def spF (S : Sta) (n : Nat) (m : DF) : Sp := fun vs H Q E => ∃ H0 mm ds μ, Glo S H0 H mm μ ∧ Dps S H0 mm vs ds ∧ ds.length = n ∧
  match m ds μ with
  | .ok d μ' => ∀ v H0' H' mm', Glo S H0' H' mm' μ' → Nx (fun _ => False) H0 H mm H0' H' mm' → Dp S H0' mm' v d → Q v H'
  | .exc x μ' => ∀ cls od H0' H' mm', Glo S H0' H' mm' μ' → Nx (fun _ => False) H0 H mm H0' H' mm' → XRep S H0' H' mm' cls od x → E cls od H'
  | .no => False
/-- the slots at the entry -/
def startE (n : Nat) (ds : List D) : Env := ds.map .fz ++ List.replicate (n - ds.length) .un
/-- a body's end -/
def endF : SR → RF
  | .nx _ μ => .ok .non μ
  | .rt d _ μ => .ok d μ
  | .exc x _ μ => .exc x μ
  | _ => .no
def bodyF (n : Nat) (f : SF) : DF := fun ds μ => endF (f (startE n ds) μ)
theorem start_ok {S : Sta} {H0 H : Hp} {mm : List Addr} {μ : Mu} {N : List Str} {vs : List V} {ds : List D} (g : Glo S H0 H mm μ) (h : Dps S H0 mm vs ds) : Ok S H0 H mm μ (L2.start N vs) (startE N.length ds) := by
  have hl := h.length
  have nown : ∀ (i : Nat) (d : D), (startE N.length ds)[i]? = some (.ow d) → False := fun i d e => by
    unfold startE at e
    rcases List.mem_append.mp (List.mem_of_getElem? e) with z | z
    · obtain ⟨_, _, z⟩ := List.mem_map.mp z
      cases z
    · obtain ⟨_, z⟩ := List.mem_replicate.mp z
      cases z
  refine ⟨g, by unfold L2.start startE; simp [hl], fun i s e => ?_, fun i j a d d' _ e _ _ _ => (nown i d e).elim⟩
  cases s with
  | un => trivial
  | ow d => exact (nown i d e).elim
  | fz d =>
    unfold startE at e
    by_cases hi : i < ds.length
    · rw [List.getElem?_append_left (by simpa using hi), List.getElem?_map] at e
      cases q : ds[i]? with
      | none => rw [q] at e; cases e
      | some d' =>
        rw [q] at e
        cases e
        obtain ⟨v, ev, dv⟩ := h.get q
        refine ⟨v, ?_, dv⟩
        unfold L2.start
        rw [List.getElem?_append_left (by simpa [hl] using hi), List.getElem?_map, ev]
        rfl
    · rw [List.getElem?_append_right (by simpa using hi)] at e
      have := List.mem_of_getElem? e
      obtain ⟨_, z⟩ := List.mem_replicate.mp this
      cases z
theorem start_own {N : List Str} {vs : List V} {ds : List D} {a : Addr} : ¬ Own (L2.start N vs) (startE N.length ds) a := fun ⟨i, d, e, _⟩ => by
  unfold startE at e
  rcases List.mem_append.mp (List.mem_of_getElem? e) with z | z
  · obtain ⟨_, _, z⟩ := List.mem_map.mp z
    cases z
  · obtain ⟨_, z⟩ := List.mem_replicate.mp z
    cases z
theorem Nx.start {N : List Str} {vs : List V} {ds : List D} {H0 H H0' H' : Hp} {mm mm' : List Addr} (n : Nx (Own (L2.start N vs) (startE N.length ds)) H0 H mm H0' H' mm') : Nx (fun _ => False) H0 H mm H0' H' mm' :=
  ⟨n.old0, fun a h _ => n.new0 a h start_own, fun a o e h _ t => n.keep a o e h start_own t, n.grow, n.mmx⟩
/-- a wish of the caller's, in the def's context -/
abbrev WE (E : XK) : WX := fun cls od _ H => E cls od H
section
variable {P : Program} {w : World} {mg : Str → Option Value} {base : Heap} {x qual : Str} {params : Arguments} {body : List Stmt} {scope : Scope} {dvs : List V} {kws : List (Str × V)} {f : Addr} {fd : FuncData} {S : Sta}
/-- THE RULE for a def: its body as data -/
theorem def_ok {N ps : List Str} {k : Nat} {sf : SF} (F : FunD S.K x qual params body scope dvs kws f fd) (Sc : FnScope N ps scope)
    (hbody : ∀ (cdv : Value) (A : Around) (outer : List PySem.Env) (s : Shared) (H : Hp) (E : XK), Room k (A.deeper (envOfC qual scope s.heap.objs.size f cdv)) →
      Takes (cxOf (L2.CX P w) P w S.K mg base N qual scope f cdv A outer s H E) (WE E) → PSs (cxOf (L2.CX P w) P w S.K mg base N qual scope f cdv A outer s H E) body (rs S (WE E) sf)) :
    FnOk P w S.K mg base (L2.CX P w) (k + 1) f fd ps (spF S ps.length (bodyF N.length sf)) := by
  refine F.ok Sc (fun vs H Q E h => ?_) (fun cdv A outer s H vs Q E hr h => ⟨_, hbody cdv A outer s H E hr (takes_of rfl rfl rfl rfl), ?_⟩)
  · obtain ⟨H0, mm, ds, μ, g, dp, hl, _⟩ := h
    rw [dp.length, hl]
  · obtain ⟨H0, mm, ds, μ, g, dp, hl, en⟩ := h
    refine ⟨H0, mm, startE N.length ds, μ, start_ok g dp, ?_⟩
    unfold bodyF at en
    cases q : sf (startE N.length ds) μ with
    | no => rw [q] at en; exact en
    | bk ρ' μ' => rw [q] at en; exact en.elim
    | ct ρ' μ' => rw [q] at en; exact en.elim
    | nx ρ' μ' => rw [q] at en; exact fun σ' H0' H' mm' ok nx ow => en .non H0' H' mm' ok.g nx.start rfl
    | rt d ρ' μ' => rw [q] at en; exact fun v σ' H0' H' mm' ok nx ow dv => en v H0' H' mm' ok.g nx.start dv
    | exc y ρ' μ' => rw [q] at en; exact fun cls od σ' H0' H' mm' ok nx ow xr => en cls od H0' H' mm' ok.g nx.start xr
end
/-! ### calls -/
/-- a def's answer in the slots -/
def liftF (ρ : Env) : RF → R Vl
  | .ok d μ => .ok (.val d) ρ μ
  | .exc x μ => .exc x ρ μ
  | .no => .no
def callV (n : Nat) (m : DF) (ds : List D) : EF Vl := fun ρ μ => if ds.length = n then liftF ρ (m ds μ) else .no
def gCall (n : Nat) (m : DF) (t : EF (List D)) : EF Vl := bnd t (callV n m)
/-- what is known of a def that is called by its name -/
structure Cal (P : Program) (w : World) (S : Sta) (mg : Str → Option Value) (base : Heap) (k : Nat) (x : Str) (n : Nat) (m : DF) : Prop where
  ex : ∃ (f : Addr) (fd : FuncData) (ps : List Str), FnOk P w S.K mg base (L2.CX P w) k f fd ps (spF S n m) ∧ mg x = some (.ref f) ∧ PySem.W.keepIn S.K (.ref f) = true ∧ Binds S.K fd ps [] ∧ ∃ (oc : Value) (od : Option Addr) (sl : Array (Option Value)), S.K.lookup f = some ⟨oc, od, .func fd, sl⟩
section
variable {S : Sta} {W : WX} {σ : St} {H : Hp} {Q : VK} {H0 H H0' H' : Hp} {mm mm' : List Addr} {μ μ' : Mu} {ρ : Env}
/-- behind a call: what the slots hold stands -/
theorem Ok.call (ok : Ok S H0 H mm μ σ ρ) (g : Glo S H0' H' mm' μ') (n : Nx (fun _ => False) H0 H mm H0' H' mm') : Ok S H0' H' mm' μ' σ ρ := by
  refine ⟨g, ok.e.len, fun i s e => ?_, ok.e.sep⟩
  have q := ok.e.at_ i s e
  cases s with
  | un => trivial
  | fz d =>
    obtain ⟨v, ev, q⟩ := q
    exact ⟨v, ev, Dp.nx n q⟩
  | ow d =>
    obtain ⟨a, ev, n0, nm, q⟩ := q
    obtain ⟨o, eo, nt⟩ := q.there
    have hn : H a ≠ none := by rw [eo]; simp
    refine ⟨a, ev, by rw [n.new0 a hn (fun z => z)]; exact n0, fun z => ?_, q.mono n.old0 n.pre (by rw [n.keep a o eo nm (fun z => z) nt, eo])⟩
    obtain ⟨more, e1, e2⟩ := n.mmx
    rw [e1] at z
    rcases List.mem_append.mp z with z | z
    · exact nm z
    · exact hn (e2 a z)
theorem Nx.of_call {O : Addr → Prop} (n : Nx (fun _ => False) H0 H mm H0' H' mm') : Nx O H0 H mm H0' H' mm' :=
  ⟨n.old0, fun a h _ => n.new0 a h fun z => z, fun a o e h _ t => n.keep a o e h (fun z => z) t, n.grow, n.mmx⟩
/-- a promise, from an end that is wanted -/
theorem call_fin' {n : Nat} {m : DF} {ds : List D} {H0p Hp : Hp} {mmp : List Addr} {ρp : Env} (ok : Ok S H0 H mm μ σ ρ) (nx : Nx (Own σ ρp) H0p Hp mmp H0 H mm) (ow : OwN Hp (Own σ ρp) (Own σ ρ)) (ho : Hold ρp ρ)
    (en : EndV S W H0p Hp mmp σ ρp Q (callV n m ds ρ μ)) : ds.length = n ∧ match m ds μ with
  | .ok d μ' => ∀ v H0' H' mm', Glo S H0' H' mm' μ' → Nx (fun _ => False) H0 H mm H0' H' mm' → Dp S H0' mm' v d → Q v H'
  | .exc x μ' => ∀ cls od H0' H' mm', Glo S H0' H' mm' μ' → Nx (fun _ => False) H0 H mm H0' H' mm' → XRep S H0' H' mm' cls od x → W cls od σ H'
  | .no => False := by
  unfold callV at en
  by_cases hl : ds.length = n
  · rw [if_pos hl] at en
    refine ⟨hl, ?_⟩
    cases q : m ds μ with
    | no => rw [q] at en; exact en
    | ok d μ' =>
      rw [q] at en
      exact fun v H0' H' mm' g n dv => en v H0' H' mm' (ok.call g n) (nx.trans ow n.of_call) (fun a h => ow a h) ho dv
    | exc x μ' =>
      rw [q] at en
      exact fun cls od H0' H' mm' g n xr => en cls od H0' H' mm' (ok.call g n) (nx.trans ow n.of_call) (fun a h => ow a h) xr
  · rw [if_neg hl] at en
    exact en.elim
theorem call_fin {n : Nat} {m : DF} {vs : List V} {ds : List D} {H0p Hp : Hp} {mmp : List Addr} {ρp : Env} (ok : Ok S H0 H mm μ σ ρ) (nx : Nx (Own σ ρp) H0p Hp mmp H0 H mm) (ow : OwN Hp (Own σ ρp) (Own σ ρ)) (ho : Hold ρp ρ) (dv : Dps S H0 mm vs ds)
    (en : EndV S W H0p Hp mmp σ ρp Q (callV n m ds ρ μ)) : spF S n m vs H Q (fun cls od H' => W cls od σ H') :=
  let ⟨a, b⟩ := call_fin' ok nx ow ho en
  ⟨H0, mm, ds, μ, ok.g, dv, a, b⟩
end
section
variable {S : Sta} {W : WX} {X : Cx} {x : Str} {p pos : Pos} {e : Expr} {es : List Expr} {k j n : Nat} {m : DF} {t : EF (List D)}
/-- f(e, ..) -/
theorem e_call (c : Cal X.prog X.w S X.mg X.base k x n m) (hK : X.K = S.K) (hr : Room j X.A) (hk : k ≤ j) (tk : Takes X W) (hw : ∀ cls od σ σ' H, W cls od σ H → W cls od σ' H) (hg : Gl X x) (ha : PA X (e :: es) (ra S W t))
    (hdb : (x == ("__debug__" : Str)) = false := by decide) (he : starEach (e :: es) X.env = (false, eval e X.env) :: starEach es X.env := by rfl) (hpl : (backTo pos (starEach es X.env)).any (·.1) = false := by rfl) :
    PE X (.Call (.Name x p) (e :: es) [] pos) (rd S W (gCall n m t)) := by
  obtain ⟨f, fd, ps, F, hm, kp, b, _⟩ := c.ex
  rw [← hK] at F kp b
  refine PE.weak (pe_call (dvs := []) (E := fun cls od H => ∀ σ, W cls od σ H) F (hr.mono hk) hg hm kp b .nil (passes_call tk fun cls d σ H h => h σ) ha hdb he hpl) fun σ H Q h => ?_
  refine rd_mono (rk_push (k := knA S) stay0 (rk_start h)) fun vs H1 h1 => ?_
  obtain ⟨H0p, Hp, mmp, ρp, H0, mm, ρ, μ, ⟨_, ds⟩, ok, nx, ow, ho, ⟨_, dv⟩, en⟩ := h1
  have z := call_fin ok nx ow ho dv en
  show spF S n m (vs ++ []) H1 Q _
  rw [List.append_nil]
  obtain ⟨H0', mm', ds', μ', g', dv', hl', en'⟩ := z
  refine ⟨H0', mm', ds', μ', g', dv', hl', ?_⟩
  revert en'
  cases m ds' μ' with
  | no => exact id
  | ok d μ' => exact id
  | exc x μ' => exact fun en' cls od H0' H' mm' g n xr σ' => hw cls od σ σ' H' (en' cls od H0' H' mm' g n xr)
end
end DL
set_option maxRecDepth 100000
set_option maxHeartbeats 1000000
/-! Operators of data. -/
namespace DL
open PySem PySem.Spec L2 NdefX

/-! ### calls of built-ins, of one or two values -/
section
variable {S : Sta} {W : WX} {X : Cx} {x : Str} {p pos : Pos} {e a b : Expr} {g ga gb : EF Vl} {h1 : D → EF Vl} {h2 : D → D → EF Vl} {id T : String} {r : List V → Hp → VK → Prop}
theorem e_callB (hc : CallR X (.builtin id) r) (k : K1 S W (fun x H Q => r [x] H Q) h1) (hg : Gl X x) (hm : X.mg x = none) (hv : bootBuiltins x = some (.builtin id)) (he : PE X e (rd S W g)) (hn : x ≠ "__name__" := by decide) (hdb : (x == ("__debug__" : Str)) = false := by decide)
    (hs : starEach [e] X.env = (false, eval e X.env) :: starEach [] X.env := by rfl) (hpl : (backTo pos (starEach [] X.env)).any (·.1) = false := by rfl) : PE X (.Call (.Name x p) [e] [] pos) (rd S W (g1 h1 g)) :=
  PE.weak (pe_callB hc hg hm hv (pa_cons he pa_nil hs) hn hdb hs hpl) fun σ H Q h => rd_mono (t_one k h) fun v H1 q => q
theorem e_callT (hc : CallR X (.type T) r) (k : K1 S W (fun x H Q => r [x] H Q) h1) (hg : Gl X x) (hm : X.mg x = none) (hv : bootBuiltins x = some (.type T)) (he : PE X e (rd S W g)) (hn : x ≠ "__name__" := by decide) (hdb : (x == ("__debug__" : Str)) = false := by decide)
    (hs : starEach [e] X.env = (false, eval e X.env) :: starEach [] X.env := by rfl) (hpl : (backTo pos (starEach [] X.env)).any (·.1) = false := by rfl) : PE X (.Call (.Name x p) [e] [] pos) (rd S W (g1 h1 g)) :=
  PE.weak (pe_callTy hc hg hm hv (pa_cons he pa_nil hs) hn hdb hs hpl) fun σ H Q h => rd_mono (t_one k h) fun v H1 q => q
theorem e_callB2 (hc : CallR X (.builtin id) r) (k : K2 S W (fun x y H Q => r [x, y] H Q) h2) (hg : Gl X x) (hm : X.mg x = none) (hv : bootBuiltins x = some (.builtin id)) (ha : PE X a (rd S W ga)) (hb : PE X b (rd S W gb)) (hn : x ≠ "__name__" := by decide) (hdb : (x == ("__debug__" : Str)) = false := by decide)
    (hs : starEach [a, b] X.env = (false, eval a X.env) :: starEach [b] X.env := by rfl) (hs2 : starEach [b] X.env = (false, eval b X.env) :: starEach [] X.env := by rfl) (hpl : (backTo pos (starEach [b] X.env)).any (·.1) = false := by rfl) : PE X (.Call (.Name x p) [a, b] [] pos) (rd S W (g2 h2 ga gb)) :=
  PE.weak (pe_callB hc hg hm hv (pa_cons ha (pa_cons hb pa_nil hs2) hs) hn hdb hs hpl) fun σ H Q h => t_two k h
end

/-! ### plain data, == -/
mutual
def toPy : D → Option PyData
  | .non => some .none
  | .bl b => some (.bool b)
  | .int i => some (.int i)
  | .str x => some (.str x)
  | .tup xs => (toPys xs).map .tuple
  | .lst xs => (toPys xs).map .list
  | .scr xs => (toPys xs).map .list
  | _ => none
def toPys : List D → Option (List PyData)
  | [] => some []
  | d :: ds => (toPy d).bind fun p => (toPys ds).map (p :: ·)
end
mutual
theorem rel_py {S : Sta} {H0 : Hp} {mm : List Addr} {H : Hp} (s : Sub H0 H) : ∀ (d : D) {v : V} {p : PyData}, Dp S H0 mm v d → toPy d = some p → L2.Dp S.K H v p
  | .non, v, p, h, e => by cases e; obtain rfl : v = .non := h; exact .non
  | .bl b, v, p, h, e => by cases e; obtain rfl : v = .bl b := h; exact .bl b
  | .int i, v, p, h, e => by cases e; obtain rfl : v = .int i := h; exact .int i
  | .str x, v, p, h, e => by cases e; obtain rfl : v = .str x := h; exact .str x
  | .tup xs, v, p, h, e => by
    obtain ⟨a, vs, rfl, q, r⟩ := h
    obtain ⟨ps, e1, rfl⟩ := Option.map_eq_some_iff.mp (show (toPys xs).map PyData.tuple = some p from e)
    exact .tup (sqT_sub s q) (rel_pys s xs r e1)
  | .lst xs, v, p, h, e => by
    obtain ⟨a, vs, rfl, q, r⟩ := h
    obtain ⟨ps, e1, rfl⟩ := Option.map_eq_some_iff.mp (show (toPys xs).map PyData.list = some p from e)
    exact .lst (SqL.of (s _ _ q)) (rel_pys s xs r e1)
  | .scr xs, v, p, h, e => by
    obtain ⟨a, vs, rfl, q, r⟩ := h
    obtain ⟨ps, e1, rfl⟩ := Option.map_eq_some_iff.mp (show (toPys xs).map PyData.list = some p from e)
    exact .lst (sqL_sub s q) (rel_pys s xs r e1)
  | .dic _ _, _, _, _, e => by cases e
  | .obj _ _, _, _, _, e => by cases e
  | .mrf _, _, _, _, e => by cases e
  | .glo _, _, _, _, e => by cases e
  | .clo _ _, _, _, _, e => by cases e
  | .ty _, _, _, _, e => by cases e
theorem rel_pys {S : Sta} {H0 : Hp} {mm : List Addr} {H : Hp} (s : Sub H0 H) : ∀ (ds : List D) {vs : List V} {ps : List PyData}, Dps S H0 mm vs ds → toPys ds = some ps → L2.DpAll S.K H vs ps
  | [], vs, ps, h, e => by cases e; cases (show vs = [] from h); exact .nil
  | d :: ds, vs, ps, h, e => by
    obtain ⟨v, r, rfl, q, t⟩ := h
    obtain ⟨p, e1, e2⟩ := Option.bind_eq_some_iff.mp (show (toPy d).bind (fun p => (toPys ds).map (p :: ·)) = some ps from e)
    obtain ⟨ps', e3, rfl⟩ := Option.map_eq_some_iff.mp e2
    exact .cons (rel_py s d q e1) (rel_pys s ds t e3)
end
theorem rel_rdd {S : Sta} {H0 : Hp} {mm : List Addr} {H : Hp} (s : Sub H0 H) : ∀ (d : D) {v : V} {p : PyData}, Rdd S H0 H mm v d → toPy d = some p → L2.Dp S.K H v p
  | .non, v, p, h, e => rel_py (mm := mm) s .non h e
  | .bl b, v, p, h, e => rel_py (mm := mm) s (.bl b) h e
  | .int i, v, p, h, e => rel_py (mm := mm) s (.int i) h e
  | .str x, v, p, h, e => rel_py (mm := mm) s (.str x) h e
  | .tup xs, v, p, h, e => rel_py (mm := mm) s (.tup xs) h e
  | .lst xs, v, p, h, e => by
    obtain ⟨a, vs, rfl, q, r⟩ := h
    obtain ⟨ps, e1, rfl⟩ := Option.map_eq_some_iff.mp (show (toPys xs).map PyData.list = some p from e)
    exact .lst (SqL.of q) (rel_pys s xs r e1)
  | .scr xs, v, p, h, e => rel_py (mm := mm) s (.scr xs) h e
  | .dic _ _, _, _, _, e => by cases e
  | .obj _ _, _, _, _, e => by cases e
  | .mrf _, _, _, _, e => by cases e
  | .glo _, _, _, _, e => by cases e
  | .clo _ _, _, _, _, e => by cases e
  | .ty _, _, _, _, e => by cases e
/-- == of plain data; none: no word here -/
def eqB (a b : D) : Option Bool := (toPy a).bind fun p => (toPy b).bind fun q => if SeqAt.shaped p && SeqAt.shaped q then some (PyData.eqv p q) else none
def hBool (f : D → D → Option Bool) (a b : D) : EF Vl := fun ρ μ => match f a b with
  | some k => .ok (.val (.bl k)) ρ μ
  | none => .no
theorem cm_bool (f : D → D → Option Bool) : Cm (hBool f) := fun a b ρ μ => by
  unfold hBool
  cases f a b with
  | none => exact .inl rfl
  | some k => exact .inr ⟨k, rfl⟩
/-- a truth by data, from a rule by values -/
theorem k2_bool {S : Sta} {W : WX} {r : R2} {f : D → D → Option Bool} (h : ∀ (x y : V) (dx dy : D) (k : Bool) (H0 H : Hp) (mm : List Addr) (μ : Mu) (σ : St) (ρ : Env) (Q : VK), f dx dy = some k → Ok S H0 H mm μ σ ρ → Rdd S H0 H mm x dx → Rdd S H0 H mm y dy → Q (.bl k) H → r x y H Q) : K2 S W r (hBool f) :=
  fun x y dx dy H0 H mm μ σ ρ Q ok rx ry en => by
    unfold hBool at en
    cases q : f dx dy with
    | none => rw [q] at en; exact en.no.elim
    | some k => rw [q] at en; exact h x y dx dy k H0 H mm μ σ ρ Q q ok rx ry (fin_val ok en rfl)
theorem eqB_some {a b : D} {k : Bool} (h : eqB a b = some k) : ∃ p q, toPy a = some p ∧ toPy b = some q ∧ SeqAt.shaped p = true ∧ SeqAt.shaped q = true ∧ k = PyData.eqv p q := by
  unfold eqB at h
  obtain ⟨p, e1, h⟩ := Option.bind_eq_some_iff.mp h
  obtain ⟨q, e2, h⟩ := Option.bind_eq_some_iff.mp h
  split at h
  · rename_i hs
    obtain ⟨h1, h2⟩ := Bool.and_eq_true_iff.mp hs
    cases h
    exact ⟨p, q, e1, e2, h1, h2, rfl⟩
  · cases h
def neB (a b : D) : Option Bool := (eqB a b).map (!·)
section
variable {S : Sta} {W : WX}
theorem k_eq : K2 S W (rEqD S.K) (hBool eqB) := k2_bool fun x y dx dy k H0 H mm μ σ ρ Q e ok rx ry q => by
  obtain ⟨p, p', e1, e2, h1, h2, rfl⟩ := eqB_some e
  exact ⟨p, p', rel_rdd ok.g.sub dx rx e1, rel_rdd ok.g.sub dy ry e2, h1, h2, q⟩
theorem k_ne : K2 S W (rNeD S.K) (hBool neB) := k2_bool fun x y dx dy k H0 H mm μ σ ρ Q e ok rx ry q => by
  obtain ⟨k', e', rfl⟩ := Option.map_eq_some_iff.mp (show (eqB dx dy).map (!·) = some k from e)
  obtain ⟨p, p', e1, e2, h1, h2, rfl⟩ := eqB_some e'
  exact ⟨p, p', rel_rdd ok.g.sub dx rx e1, rel_rdd ok.g.sub dy ry e2, h1, h2, q⟩
end

/-! ### is None -/
def isN : D → Bool
  | .non => true
  | _ => false
theorem rdd_non {S : Sta} {H0 H : Hp} {mm : List Addr} {v : V} : ∀ {d : D}, Rdd S H0 H mm v d → decide (v = .non) = isN d
  | .non, h => by obtain rfl : v = .non := h; rfl
  | .bl _, h => by obtain rfl : v = .bl _ := h; rfl
  | .int _, h => by obtain rfl : v = .int _ := h; rfl
  | .str _, h => by obtain rfl : v = .str _ := h; rfl
  | .tup _, h => by obtain ⟨a, vs, rfl, _⟩ := h; rfl
  | .lst _, h => by obtain ⟨a, vs, rfl, _⟩ := h; rfl
  | .scr _, h => by obtain ⟨a, vs, rfl, _⟩ := h; rfl
  | .dic _ _, h => by obtain ⟨a, vs, rfl, _⟩ := h; rfl
  | .obj _ _, h => by obtain ⟨a, _, vs, rfl, _⟩ := h; rfl
  | .mrf _, h => by obtain ⟨a, _, rfl⟩ := h; rfl
  | .glo _, h => by obtain rfl : v = .ref _ := h; rfl
  | .clo _ _, h => by obtain ⟨a, _, rfl, _⟩ := h; rfl
  | .ty _, h => by obtain rfl : v = .ty _ := h; rfl
section
variable {S : Sta} {W : WX} {X : Cx} {a : Expr} {g : EF Vl} {pos pos' : Pos} {j : Nat}
def hIsN (d : D) : EF Vl := ret (.val (.bl (isN d)))
def hNotN (d : D) : EF Vl := ret (.val (.bl (!isN d)))
theorem k_isN : K1 S W (fun x H1 Q => Q (.bl (decide (x = .non))) H1) hIsN := fun x dx H0 H mm μ σ ρ Q ok rx en => by
  show Q (.bl (decide (x = .non))) H
  rw [rdd_non rx]
  exact fin_val ok en rfl
theorem k_notN : K1 S W (fun x H1 Q => Q (.bl (!decide (x = .non))) H1) hNotN := fun x dx H0 H mm μ σ ρ Q ok rx en => by
  show Q (.bl (!decide (x = .non))) H
  rw [rdd_non rx]
  exact fin_val ok en rfl
theorem e_isN (ha : PE X a (rd S W g)) : PE X (.Compare a [.Is] [.Constant .none j pos'] pos) (rd S W (g1 hIsN g)) := PE.weak (pe_cmp (pc_isN ha) rfl) fun σ H Q h => t_one k_isN h
theorem e_notN (ha : PE X a (rd S W g)) : PE X (.Compare a [.IsNot] [.Constant .none j pos'] pos) (rd S W (g1 hNotN g)) := PE.weak (pe_cmp (pc_notN ha) rfl) fun σ H Q h => t_one k_notN h
theorem t_isN (ha : PE X a (rd S W g)) : PT X (.Compare a [.Is] [.Constant .none j pos'] pos) (rt S W (gB (g1 hIsN g))) := PT.weak (pt_cmp (pc_isN ha) rfl) fun σ H Q h => t_one k_isN (t_asB h)
theorem t_notN (ha : PE X a (rd S W g)) : PT X (.Compare a [.IsNot] [.Constant .none j pos'] pos) (rt S W (gB (g1 hNotN g))) := PT.weak (pt_cmp (pc_notN ha) rfl) fun σ H Q h => t_one k_notN (t_asB h)
end

/-! ### numbers, + -/
def hInt (c : Int → Int → Bool) (f : Int → Int → D) : D → D → EF Vl
  | .int i, .int j, ρ, μ => if c i j = true then .ok (.val (f i j)) ρ μ else .no
  | _, _, _, _ => .no
theorem hInt_some {c : Int → Int → Bool} {f : Int → Int → D} {dx dy : D} {ρ : Env} {μ : Mu} : (∃ i j, dx = .int i ∧ dy = .int j ∧ c i j = true ∧ hInt c f dx dy ρ μ = .ok (.val (f i j)) ρ μ) ∨ hInt c f dx dy ρ μ = .no := by
  cases dx with
  | int i =>
    cases dy with
    | int j =>
      by_cases h : c i j = true
      · exact .inl ⟨i, j, rfl, rfl, h, if_pos h⟩
      · exact .inr (if_neg h)
    | _ => exact .inr rfl
  | _ => exact .inr rfl
section
variable {S : Sta} {W : WX}
theorem k_int {C : Int → Int → Prop} {g : Int → Int → V} {c : Int → Int → Bool} {f : Int → Int → D} (hc : ∀ i j, c i j = true → C i j) (hf : ∀ i j H0 mm, Dp S H0 mm (g i j) (f i j)) : K2 S W (rI C g) (hInt c f) := fun x y dx dy H0 H mm μ σ ρ Q ok rx ry en => by
  rcases hInt_some (c := c) (f := f) (dx := dx) (dy := dy) (ρ := ρ) (μ := μ) with ⟨i, j, rfl, rfl, h, e⟩ | e
  · rw [e] at en
    exact ⟨i, j, rx, ry, hc i j h, fin_val ok en (hf i j H0 mm)⟩
  · rw [e] at en
    exact en.no.elim
theorem k_int0 {g : Int → Int → V} {f : Int → Int → D} (hf : ∀ i j H0 mm, Dp S H0 mm (g i j) (f i j)) : K2 S W (rI0 g) (hInt (fun _ _ => true) f) := fun x y dx dy H0 H mm μ σ ρ Q ok rx ry en => by
  rcases hInt_some (c := fun _ _ => true) (f := f) (dx := dx) (dy := dy) (ρ := ρ) (μ := μ) with ⟨i, j, rfl, rfl, h, e⟩ | e
  · rw [e] at en
    exact ⟨i, j, rx, ry, fin_val ok en (hf i j H0 mm)⟩
  · rw [e] at en
    exact en.no.elim
end
abbrev iAdd : D → D → EF Vl := hInt (fun _ _ => true) fun i j => .int (i + j)
abbrev iSub : D → D → EF Vl := hInt (fun _ _ => true) fun i j => .int (i - j)
def mulOk (i j : Int) : Bool := (decide (-(2 ^ 64) < i) && decide (i < 2 ^ 64)) || (decide (-(2 ^ 64) < j) && decide (j < 2 ^ 64))
abbrev iMul : D → D → EF Vl := hInt mulOk fun i j => .int (i * j)
abbrev iMod : D → D → EF Vl := hInt (fun _ j => decide (0 < j)) fun i j => .int (i % j)
abbrev iDiv : D → D → EF Vl := hInt (fun _ j => decide (0 < j) && decide (j < 1073741824)) fun i j => .int (i / j)
def powOk (i j : Int) : Bool := decide (0 ≤ j) && (decide (j ≤ 1000000) && decide (i.natAbs < 2 ^ 64))
abbrev iPow : D → D → EF Vl := hInt powOk fun i j => .int (i ^ j.toNat)
abbrev iLt : D → D → EF Vl := hInt (fun _ _ => true) fun i j => .bl (decide (i < j))
abbrev iLe : D → D → EF Vl := hInt (fun _ _ => true) fun i j => .bl (decide (i ≤ j))
abbrev iGt : D → D → EF Vl := hInt (fun _ _ => true) fun i j => .bl (decide (j < i))
abbrev iGe : D → D → EF Vl := hInt (fun _ _ => true) fun i j => .bl (decide (j ≤ i))
theorem cm_int {c : Int → Int → Bool} {f : Int → Int → Bool} : Cm (hInt c fun i j => .bl (f i j)) := fun a b ρ μ => by
  rcases hInt_some (c := c) (f := fun i j => .bl (f i j)) (dx := a) (dy := b) (ρ := ρ) (μ := μ) with ⟨i, j, _, _, _, e⟩ | e
  · exact .inr ⟨_, e⟩
  · exact .inl e
section
variable {S : Sta} {W : WX} {X : Cx} {a b : Expr} {ga gb : EF Vl} {pos : Pos}
theorem e_add (ha : PE X a (rd S W ga)) (hb : PE X b (rd S W gb)) : PE X (.BinOp a .Add b pos) (rd S W (g2 iAdd ga gb)) := e_op op_add (k_int0 fun _ _ _ _ => rfl) ha hb
theorem e_sub (ha : PE X a (rd S W ga)) (hb : PE X b (rd S W gb)) : PE X (.BinOp a .Sub b pos) (rd S W (g2 iSub ga gb)) := e_op op_sub (k_int0 fun _ _ _ _ => rfl) ha hb
theorem e_mul (ha : PE X a (rd S W ga)) (hb : PE X b (rd S W gb)) : PE X (.BinOp a .Mult b pos) (rd S W (g2 iMul ga gb)) := e_op op_mul (k_int (fun i j h => by
  unfold mulOk at h
  unfold CMul
  simpa only [Bool.or_eq_true, Bool.and_eq_true, decide_eq_true_eq] using h) fun _ _ _ _ => rfl) ha hb
theorem e_mod (ha : PE X a (rd S W ga)) (hb : PE X b (rd S W gb)) : PE X (.BinOp a .Mod b pos) (rd S W (g2 iMod ga gb)) := e_op op_mod (k_int (fun i j h => of_decide_eq_true h) fun _ _ _ _ => rfl) ha hb
theorem e_div (ha : PE X a (rd S W ga)) (hb : PE X b (rd S W gb)) : PE X (.BinOp a .FloorDiv b pos) (rd S W (g2 iDiv ga gb)) := e_op op_fdiv (k_int (fun i j h => by
  simpa only [CDiv, Bool.and_eq_true, decide_eq_true_eq] using h) fun _ _ _ _ => rfl) ha hb
theorem e_pow (ha : PE X a (rd S W ga)) (hb : PE X b (rd S W gb)) : PE X (.BinOp a .Pow b pos) (rd S W (g2 iPow ga gb)) := e_op op_pow (k_int (fun i j h => by
  simpa only [CPow, powOk, Bool.and_eq_true, decide_eq_true_eq] using h) fun _ _ _ _ => rfl) ha hb
theorem k_lt : K2 S W (rI0 fun i j => .bl (decide (i < j))) iLt := k_int0 fun _ _ _ _ => rfl
theorem k_le : K2 S W (rI0 fun i j => .bl (decide (i ≤ j))) iLe := k_int0 fun _ _ _ _ => rfl
theorem k_gt : K2 S W (rI0 fun i j => .bl (decide (j < i))) iGt := k_int0 fun _ _ _ _ => rfl
theorem k_ge : K2 S W (rI0 fun i j => .bl (decide (j ≤ i))) iGe := k_int0 fun _ _ _ _ => rfl
end
end DL
set_option maxRecDepth 100000
set_option maxHeartbeats 1000000
/-! Built-ins of data: isinstance, len, in, items, slices, all, any, sum, tuple, +. -/
namespace DL
open PySem PySem.Spec L2 NdefX

/-! ### isinstance -/
structure Cli (K : PySem.W.Frag) (C : Addr) : Prop where
  cl : Cls K C
  ha : PySem.W.findIn K (.ref C) "__class__" = some (some (.builtin "object.__class__"))
  hn : PySem.W.specialIn K (.builtin "object.__class__") "__get__" = some (some (.builtin "getset_descriptor.__get__"))
  ht : PySem.W.takesIn K (.builtin "object.__class__") = some true
  hm : PySem.W.mroIn K C (.type "object") = some true
def bTys : List String := ["int", "bool", "str", "tuple", "list"]
def vTys : List String := ["NoneType", "bool", "int", "str", "list", "tuple", "dict"]
/-- what isinstance tells of the classes L -/
structure IsF (K : PySem.W.Frag) (L : List Str) : Prop where
  ins : ∀ C ∈ L, Cli K (He.ga K C)
  ty : ∀ C ∈ L, ∀ T ∈ bTys, PySem.W.kitOne K (.ref (He.ga K C)) (.type T) = some false
  own : ∀ C ∈ L, ∀ C' ∈ L, PySem.W.kitOne K (.ref (He.ga K C)) (.ref (He.ga K C')) = some (decide (C = C'))
  bt : ∀ T ∈ vTys, ∀ C ∈ L, PySem.W.kitOne K (.type T) (.ref (He.ga K C)) = some false
/-- a datum's type: a built-in one, or a class -/
inductive Ty where
  | b (T : String) | c (C : Str)
def tyOf (μ : Mu) : D → Option Ty
  | .non => some (.b "NoneType")
  | .bl _ => some (.b "bool")
  | .int _ => some (.b "int")
  | .str _ => some (.b "str")
  | .tup _ => some (.b "tuple")
  | .lst _ => some (.b "list")
  | .scr _ => some (.b "list")
  | .dic _ _ => some (.b "dict")
  | .obj C _ => some (.c C)
  | .mrf k => (match μ[k]? with
    | some (.lst _) => some (.b "list")
    | some (.ins C _) => some (.c C)
    | none => none)
  | _ => none
def isiT (L : List Str) (T : String) : Option Ty → Option Bool
  | some (.b A) => kitB A T
  | some (.c C) => if C ∈ L ∧ T ∈ bTys then some false else none
  | none => none
def isiC (L : List Str) (C' : Str) : Option Ty → Option Bool
  | some (.b A) => if A ∈ vTys ∧ C' ∈ L then some false else none
  | some (.c C) => if C ∈ L ∧ C' ∈ L then some (decide (C = C')) else none
  | none => none
def okB (o : Option Bool) : EF Vl := fun ρ μ => match o with
  | some k => .ok (.val (.bl k)) ρ μ
  | none => .no
def hIsiT (L : List Str) (T : String) (d : D) : EF Vl := fun ρ μ => okB (isiT L T (tyOf μ d)) ρ μ
def hIsiC (L : List Str) (C : Str) (d : D) : EF Vl := fun ρ μ => okB (isiC L C (tyOf μ d)) ρ μ
theorem okB_fin {S : Sta} {W : WX} {H0 H : Hp} {mm : List Addr} {μ : Mu} {σ : St} {ρ : Env} {Q : VK} {o : Option Bool} (ok : Ok S H0 H mm μ σ ρ) (en : Fin S W H0 H mm σ ρ Q (okB o ρ μ)) : ∃ k, o = some k ∧ Q (.bl k) H := by
  unfold okB at en
  cases o with
  | none => exact en.no.elim
  | some k => exact ⟨k, rfl, fin_val ok en rfl⟩
/-- a value's type, by its datum -/
def TyRel (K : PySem.W.Frag) : Ty → Value → Prop
  | .b T, t => t = .type T ∧ T ∈ vTys
  | .c C, t => t = .ref (He.ga K C)
theorem sqL_ty {K : PySem.W.Frag} {H : Hp} {a : Addr} {xs : List V} (h : SqL K H a xs) : TyX K H (.ref a) (.type "list") := by
  rcases h with (h | ⟨o, h⟩) | ⟨o, its, n, h, hc, _⟩
  · exact .base (.lst h)
  · exact .base (.frz h)
  · exact .kList h hc
theorem sqT_ty {K : PySem.W.Frag} {H : Hp} {a : Addr} {xs : List V} (h : SqT K H a xs) : TyX K H (.ref a) (.type "tuple") := by
  rcases h with (h | ⟨o, h⟩) | ⟨o, its, n, h, hc, _⟩
  · exact .base (.tup h)
  · exact .fTuple h
  · exact .kTuple h hc
theorem ins_ty {K : PySem.W.Frag} {H : Hp} {a C dx : Addr} {fs : List (Str × V)} (c : Cli K C) (h : H a = some (.ins C dx fs)) : TyX K H (.ref a) (.ref C) := .base (.ins h c.cl c.ha c.hn c.ht c.hm)
theorem ty_rel {S : Sta} {H0 H : Hp} {mm : List Addr} {μ : Mu} {σ : St} {ρ : Env} {v : V} {L : List Str} (F : IsF S.K L) (ok : Ok S H0 H mm μ σ ρ) : ∀ {d : D} {t : Ty}, Rdd S H0 H mm v d → tyOf μ d = some t → (∀ C, t = .c C → C ∈ L) → ∃ u, TyX S.K H v u ∧ TyRel S.K t u
  | .non, t, h, e, _ => by cases e; obtain rfl : v = .non := h; exact ⟨_, .base .non, rfl, by decide⟩
  | .bl b, t, h, e, _ => by cases e; obtain rfl : v = .bl b := h; exact ⟨_, .base (.bl b), rfl, by decide⟩
  | .int i, t, h, e, _ => by cases e; obtain rfl : v = .int i := h; exact ⟨_, .base (.int i), rfl, by decide⟩
  | .str x, t, h, e, _ => by cases e; obtain rfl : v = .str x := h; exact ⟨_, .base (.str x), rfl, by decide⟩
  | .tup ds, t, h, e, _ => by cases e; obtain ⟨a, vs, rfl, q, _⟩ := h; exact ⟨_, sqT_ty (sqT_sub ok.g.sub q), rfl, by decide⟩
  | .lst ds, t, h, e, _ => by cases e; obtain ⟨a, vs, rfl, q, _⟩ := h; exact ⟨_, .base (.lst q), rfl, by decide⟩
  | .scr ds, t, h, e, _ => by cases e; obtain ⟨a, vs, rfl, q, _⟩ := h; exact ⟨_, sqL_ty (sqL_sub ok.g.sub q), rfl, by decide⟩
  | .dic ks vs, t, h, e, _ => by cases e; obtain ⟨a, kvs, rfl, q, _⟩ := h; exact ⟨_, .base (.dK q), rfl, by decide⟩
  | .obj C fs, t, h, e, hl => by cases e; obtain ⟨a, dx, fvs, rfl, q, _⟩ := h; exact ⟨_, ins_ty (F.ins C (hl C rfl)) q, rfl⟩
  | .mrf k, t, h, e, hl => by
    obtain ⟨a, q, rfl⟩ := h
    cases e1 : μ[k]? with
    | none =>
      have e : (match μ[k]? with
        | some (.lst _) => some (Ty.b "list")
        | some (.ins C _) => some (.c C)
        | none => none) = some t := e
      rw [e1] at e
      cases e
    | some m =>
      have e : (match μ[k]? with
        | some (.lst _) => some (Ty.b "list")
        | some (.ins C _) => some (.c C)
        | none => none) = some t := e
      rw [e1] at e
      have mo := ok.g.mu.at_ k a m q e1
      cases m with
      | lst ds =>
        cases e
        obtain ⟨vs, z, _⟩ := mo
        exact ⟨_, .base (.lst z), rfl, by decide⟩
      | ins C fs =>
        cases e
        obtain ⟨dx, fvs, z, _⟩ := mo
        exact ⟨_, ins_ty (F.ins C (hl C rfl)) z, rfl⟩
  | .glo _, _, _, e, _ => by cases e
  | .clo _ _, _, _, e, _ => by cases e
  | .ty _, _, _, e, _ => by cases e
section
variable {S : Sta} {W : WX} {X : Cx} {x : Str} {p p2 pos : Pos} {e : Expr} {g : EF Vl} {L : List Str} {T : String} {C : Str}
theorem e_isiT (F : IsF S.K L) (hK : X.K = S.K) (hg : Gl X "isinstance") (hm : X.mg "isinstance" = none) (hgT : Gl X x) (hmT : X.mg x = none) (hv : bootBuiltins x = some (.type T)) (he : PE X e (rd S W g)) (hn : x ≠ "__name__" := by decide) (hdb : (x == ("__debug__" : Str)) = false := by decide)
    (hs : starEach [e, .Name x p2] X.env = (false, eval e X.env) :: starEach [.Name x p2] X.env := by rfl) (hs2 : starEach [.Name x p2] X.env = (false, eval (.Name x p2) X.env) :: starEach [] X.env := by rfl) (hpl : (backTo pos (starEach [.Name x p2] X.env)).any (·.1) = false := by rfl) :
    PE X (.Call (.Name "isinstance" p) [e, .Name x p2] [] pos) (rd S W (g1 (hIsiT L T) g)) := by
  refine PE.weak (pe_callB call_isi hg hm (by decide +kernel) (pa_cons he (pa_cons (pe_bltn (v := .ty T) hgT hmT hv rfl hn hdb) pa_nil hs2) hs) (by decide) (by decide) hs hpl) fun σ H Q h => ?_
  refine t_one (r1 := fun x H1 Q => rIsi X.K [x, .ty T] H1 Q) (fun x dx H0 H mm μ σ ρ Q ok rx en => ?_) h
  obtain ⟨k, ek, q⟩ := okB_fin ok (o := isiT L T (tyOf μ dx)) en
  cases et : tyOf μ dx with
  | none => rw [et] at ek; cases ek
  | some t =>
    rw [et] at ek
    cases t with
    | b A =>
      obtain ⟨u, tu, rfl, _⟩ := ty_rel F ok rx et (fun C z => by cases z)
      rw [hK]
      exact ⟨x, .ty T, _, _, k, rfl, .ty T, tu, kit_ty ek, q⟩
    | c C =>
      have ek : (if C ∈ L ∧ T ∈ bTys then some false else none) = some k := ek
      split at ek
      · rename_i hc
        cases ek
        obtain ⟨u, tu, hu⟩ := ty_rel F ok rx et (fun C' z => by cases z; exact hc.1)
        obtain rfl : u = .ref (He.ga S.K C) := hu
        rw [hK]
        exact ⟨x, .ty T, _, _, false, rfl, .ty T, tu, F.ty C hc.1 T hc.2, q⟩
      · cases ek
theorem e_isiC (F : IsF S.K L) (hK : X.K = S.K) (hg : Gl X "isinstance") (hm : X.mg "isinstance" = none) (hgT : Gl X C) (hmT : X.mg C = some (.ref (He.ga S.K C))) (he : PE X e (rd S W g)) (hdb : (C == ("__debug__" : Str)) = false := by decide)
    (hs : starEach [e, .Name C p2] X.env = (false, eval e X.env) :: starEach [.Name C p2] X.env := by rfl) (hs2 : starEach [.Name C p2] X.env = (false, eval (.Name C p2) X.env) :: starEach [] X.env := by rfl) (hpl : (backTo pos (starEach [.Name C p2] X.env)).any (·.1) = false := by rfl) :
    PE X (.Call (.Name "isinstance" p) [e, .Name C p2] [] pos) (rd S W (g1 (hIsiC L C) g)) := by
  refine PE.weak (pe_callB call_isi hg hm (by decide +kernel) (pa_cons he (pa_cons (pe_glob (v := .ref (He.ga S.K C)) hgT hmT rfl hdb) pa_nil hs2) hs) (by decide) (by decide) hs hpl) fun σ H Q h => ?_
  refine t_one (r1 := fun x H1 Q => rIsi X.K [x, .ref (He.ga S.K C)] H1 Q) (fun x dx H0 H mm μ σ ρ Q ok rx en => ?_) h
  obtain ⟨k, ek, q⟩ := okB_fin ok (o := isiC L C (tyOf μ dx)) en
  cases et : tyOf μ dx with
  | none => rw [et] at ek; cases ek
  | some t =>
    rw [et] at ek
    cases t with
    | b A =>
      have ek : (if A ∈ vTys ∧ C ∈ L then some false else none) = some k := ek
      split at ek
      · rename_i hc
        cases ek
        obtain ⟨u, tu, rfl, _⟩ := ty_rel F ok rx et (fun C z => by cases z)
        rw [hK]
        exact ⟨x, .ref _, _, _, false, rfl, .own _, tu, F.bt A hc.1 C hc.2, q⟩
      · cases ek
    | c C' =>
      have ek : (if C' ∈ L ∧ C ∈ L then some (decide (C' = C)) else none) = some k := ek
      split at ek
      · rename_i hc
        cases ek
        obtain ⟨u, tu, hu⟩ := ty_rel F ok rx et (fun C' z => by cases z; exact hc.1)
        obtain rfl : u = .ref (He.ga S.K C') := hu
        rw [hK]
        exact ⟨x, .ref _, _, _, _, rfl, .own _, tu, F.own C' hc.1 C hc.2, q⟩
      · cases ek
end

/-! ### len -/
def lenD : D → Option Nat
  | .str x => if x.length ≤ sizeLine then some x.length else none
  | .tup ds => some ds.length
  | .lst ds => some ds.length
  | .scr ds => some ds.length
  | _ => none
def okN (o : Option Nat) : EF Vl := fun ρ μ => match o with
  | some k => .ok (.val (.int k)) ρ μ
  | none => .no
def hLen (d : D) : EF Vl := okN (lenD d)
/-- a datum from data -/
def okD (o : Option D) : EF Vl := fun ρ μ => match o with
  | some d => .ok (.val d) ρ μ
  | none => .no
section
variable {S : Sta} {W : WX} {X : Cx}
theorem k_len (hK : X.K = S.K) : K1 S W (fun x H Q => ∃ y n, [x] = [y] ∧ LenV X.K y H n ∧ Q (.int n) H) hLen := fun x dx H0 H mm μ σ ρ Q ok rx en => by
  rw [hK]
  unfold hLen okN at en
  cases dx with
  | str z =>
    obtain rfl : x = .str z := rx
    by_cases hl : z.length ≤ sizeLine
    · have e : lenD (.str z) = some z.length := if_pos hl
      rw [e] at en
      exact ⟨_, z.length, rfl, ⟨hl, rfl⟩, fin_val ok en rfl⟩
    · have e : lenD (.str z) = none := if_neg hl
      rw [e] at en
      exact en.no.elim
  | tup ds =>
    obtain ⟨a, vs, rfl, q, r⟩ := rx
    exact ⟨_, ds.length, rfl, .inr ⟨vs, sqT_sub ok.g.sub q, r.length.symm⟩, fin_val ok en rfl⟩
  | lst ds =>
    obtain ⟨a, vs, rfl, q, r⟩ := rx
    exact ⟨_, ds.length, rfl, .inl ⟨vs, SqL.of q, r.length.symm⟩, fin_val ok en rfl⟩
  | scr ds =>
    obtain ⟨a, vs, rfl, q, r⟩ := rx
    exact ⟨_, ds.length, rfl, .inl ⟨vs, sqL_sub ok.g.sub q, r.length.symm⟩, fin_val ok en rfl⟩
  | _ => exact en.no.elim

/-! ### items -/
def ixD : D → D → Option D
  | .tup ds, .int i => atI ds i
  | .lst ds, .int i => atI ds i
  | .scr ds, .int i => atI ds i
  | .str z, .int i => if z.length ≤ sizeLine then (atI z.cps.toList i).map fun c => .str ⟨#[c]⟩ else none
  | _, _ => none
def hIx (a b : D) : EF Vl := okD (ixD a b)
theorem Dps.atI {H0 : Hp} {mm : List Addr} {ds : List D} {vs : List V} {i : Int} {d : D} (h : Dps S H0 mm vs ds) (e : L2.atI ds i = some d) : ∃ v, L2.atI vs i = some v ∧ Dp S H0 mm v d := by
  unfold L2.atI at e ⊢
  rw [h.length]
  obtain ⟨j, e1, e2⟩ := Option.bind_eq_some_iff.mp e
  obtain ⟨v, e3, q⟩ := h.get e2
  exact ⟨v, by rw [e1]; exact e3, q⟩
theorem k_ix (hK : X.K = S.K) : K2 S W (rIx X.K) hIx := fun x y dx dy H0 H mm μ σ ρ Q ok rx ry en => by
  rw [hK]
  cases e : ixD dx dy with
  | none => unfold hIx okD at en; rw [e] at en; exact en.no.elim
  | some d =>
    unfold hIx okD at en
    rw [e] at en
    cases dx with
    | tup ds =>
      cases dy with
      | int i =>
        obtain ⟨a, vs, rfl, q, r⟩ := rx
        obtain ⟨v, ev, dv⟩ := r.atI e
        exact .inr (.inl ⟨a, vs, i, v, rfl, ry, sqT_sub ok.g.sub q, ev, fin_val ok en dv⟩)
      | _ => cases e
    | lst ds =>
      cases dy with
      | int i =>
        obtain ⟨a, vs, rfl, q, r⟩ := rx
        obtain ⟨v, ev, dv⟩ := r.atI e
        exact .inl ⟨a, vs, i, v, rfl, ry, SqL.of q, ev, fin_val ok en dv⟩
      | _ => cases e
    | scr ds =>
      cases dy with
      | int i =>
        obtain ⟨a, vs, rfl, q, r⟩ := rx
        obtain ⟨v, ev, dv⟩ := r.atI e
        exact .inl ⟨a, vs, i, v, rfl, ry, sqL_sub ok.g.sub q, ev, fin_val ok en dv⟩
      | _ => cases e
    | str z =>
      cases dy with
      | int i =>
        obtain rfl : x = .str z := rx
        have e : (if z.length ≤ sizeLine then (L2.atI z.cps.toList i).map fun c => D.str ⟨#[c]⟩ else none) = some d := e
        split at e
        · rename_i hl
          obtain ⟨c, ec, rfl⟩ := Option.map_eq_some_iff.mp e
          exact .inr (.inr ⟨z, i, c, rfl, ry, hl, ec, fin_val ok en rfl⟩)
        · cases e
      | _ => cases e
    | _ => cases dy <;> cases e
theorem e_ix {a b : Expr} {ga gb : EF Vl} {pos : Pos} (hK : X.K = S.K) (ha : PE X a (rd S W ga)) (hb : PE X b (rd S W gb)) (hs : PlainIx b) : PE X (.Subscript a b pos) (rd S W (g2 hIx ga gb)) :=
  PE.weak (pe_ix ix_seq ha hb hs) fun σ H Q h => t_two (k_ix hK) h

/-! ### all, any, sum, tuple, list -/
def blsD : List D → Option (List Bool)
  | [] => some []
  | .bl b :: ds => (blsD ds).map (b :: ·)
  | _ :: _ => none
theorem bls_rel {H0 : Hp} {mm : List Addr} : ∀ {ds : List D} {vs : List V} {bs : List Bool}, Dps S H0 mm vs ds → blsD ds = some bs → vs = bs.map V.bl
  | [], vs, bs, h, e => by cases e; exact h
  | d :: ds, vs, bs, h, e => by
    obtain ⟨v, r, rfl, q, t⟩ := h
    cases d with
    | bl b =>
      obtain ⟨cs, e1, rfl⟩ := Option.map_eq_some_iff.mp (show (blsD ds).map (b :: ·) = some bs from e)
      obtain rfl : v = .bl b := q
      rw [bls_rel t e1, List.map_cons]
    | _ => cases e
def intsD : List D → Option (List Int)
  | [] => some []
  | .int b :: ds => (intsD ds).map (b :: ·)
  | _ :: _ => none
theorem ints_rel {H0 : Hp} {mm : List Addr} : ∀ {ds : List D} {vs : List V} {bs : List Int}, Dps S H0 mm vs ds → intsD ds = some bs → vs = bs.map V.int
  | [], vs, bs, h, e => by cases e; exact h
  | d :: ds, vs, bs, h, e => by
    obtain ⟨v, r, rfl, q, t⟩ := h
    cases d with
    | int b =>
      obtain ⟨cs, e1, rfl⟩ := Option.map_eq_some_iff.mp (show (intsD ds).map (b :: ·) = some bs from e)
      obtain rfl : v = .int b := q
      rw [ints_rel t e1, List.map_cons]
    | _ => cases e
def allD : D → Option D
  | .lst ds => (blsD ds).map fun bs => .bl (bs.all id)
  | _ => none
def anyD : D → Option D
  | .lst ds => (blsD ds).map fun bs => .bl (bs.any id)
  | _ => none
def sumD : D → Option D
  | .lst ds => (intsD ds).map fun bs => .int bs.sum
  | _ => none
def hAll (d : D) : EF Vl := okD (allD d)
def hAny (d : D) : EF Vl := okD (anyD d)
def hSum (d : D) : EF Vl := okD (sumD d)
theorem k_all (hK : X.K = S.K) : K1 S W (fun x H Q => rAll X.K [x] H Q) hAll := fun x dx H0 H mm μ σ ρ Q ok rx en => by
  rw [hK]
  unfold hAll okD at en
  cases dx with
  | lst ds =>
    obtain ⟨a, vs, rfl, q, r⟩ := rx
    cases e : blsD ds with
    | none => rw [show allD (.lst ds) = none from congrArg (Option.map _) e] at en; exact en.no.elim
    | some bs =>
      rw [show allD (.lst ds) = some (.bl (bs.all id)) from congrArg (Option.map _) e] at en
      rw [bls_rel r e] at q
      exact ⟨a, bs, rfl, SqL.of q, fin_val ok en rfl⟩
  | _ => exact en.no.elim
theorem k_any (hK : X.K = S.K) : K1 S W (fun x H Q => rAny X.K [x] H Q) hAny := fun x dx H0 H mm μ σ ρ Q ok rx en => by
  rw [hK]
  unfold hAny okD at en
  cases dx with
  | lst ds =>
    obtain ⟨a, vs, rfl, q, r⟩ := rx
    cases e : blsD ds with
    | none => rw [show anyD (.lst ds) = none from congrArg (Option.map _) e] at en; exact en.no.elim
    | some bs =>
      rw [show anyD (.lst ds) = some (.bl (bs.any id)) from congrArg (Option.map _) e] at en
      rw [bls_rel r e] at q
      exact ⟨a, bs, rfl, SqL.of q, fin_val ok en rfl⟩
  | _ => exact en.no.elim
theorem k_sum (hK : X.K = S.K) : K1 S W (fun x H Q => rSum X.K [x] H Q) hSum := fun x dx H0 H mm μ σ ρ Q ok rx en => by
  rw [hK]
  unfold hSum okD at en
  cases dx with
  | lst ds =>
    obtain ⟨a, vs, rfl, q, r⟩ := rx
    cases e : intsD ds with
    | none => rw [show sumD (.lst ds) = none from congrArg (Option.map _) e] at en; exact en.no.elim
    | some bs =>
      rw [show sumD (.lst ds) = some (.int bs.sum) from congrArg (Option.map _) e] at en
      rw [ints_rel r e] at q
      exact ⟨a, bs, rfl, SqL.of q, fin_val ok en rfl⟩
  | _ => exact en.no.elim
def hTuple : D → EF Vl
  | .lst ds => ret (.val (.tup ds))
  | .scr ds => ret (.val (.tup ds))
  | .tup ds => ret (.val (.tup ds))
  | _ => stuck
theorem k_tuple (hK : X.K = S.K) : K1 S W (fun x H Q => ∃ p ys, [x] = [.ref p] ∧ ((SqL X.K H p ys ∧ ∀ l, H l = none → Q (.ref l) (upd H l (.tup ys))) ∨ (SqT X.K H p ys ∧ Q (.ref p) H))) hTuple := fun x dx H0 H mm μ σ ρ Q ok rx en => by
  rw [hK]
  cases dx with
  | lst ds =>
    obtain ⟨a, vs, rfl, q, r⟩ := rx
    exact ⟨a, vs, rfl, .inl ⟨SqL.of q, fun l hl => fin_tup ok en r hl⟩⟩
  | scr ds =>
    obtain ⟨a, vs, rfl, q, r⟩ := rx
    exact ⟨a, vs, rfl, .inl ⟨sqL_sub ok.g.sub q, fun l hl => fin_tup ok en r hl⟩⟩
  | tup ds =>
    obtain ⟨a, vs, rfl, q, r⟩ := rx
    exact ⟨a, vs, rfl, .inr ⟨sqT_sub ok.g.sub q, fin_val ok en ⟨a, vs, rfl, q, r⟩⟩⟩
  | _ => exact en.no.elim
def hList : D → EF Vl
  | .lst ds => ret (.frs (.lst ds))
  | .scr ds => ret (.frs (.lst ds))
  | .tup ds => ret (.frs (.lst ds))
  | _ => stuck
theorem k_list (hK : X.K = S.K) : K1 S W (fun x H Q => ∃ p ys, [x] = [.ref p] ∧ (SqL X.K H p ys ∨ SqT X.K H p ys) ∧ ∀ l, H l = none → Q (.ref l) (upd H l (.lst ys))) hList := fun x dx H0 H mm μ σ ρ Q ok rx en => by
  rw [hK]
  cases dx with
  | lst ds =>
    obtain ⟨a, vs, rfl, q, r⟩ := rx
    exact ⟨a, vs, rfl, .inl (SqL.of q), fun l hl => fin_lst ok en r hl⟩
  | scr ds =>
    obtain ⟨a, vs, rfl, q, r⟩ := rx
    exact ⟨a, vs, rfl, .inl (sqL_sub ok.g.sub q), fun l hl => fin_lst ok en r hl⟩
  | tup ds =>
    obtain ⟨a, vs, rfl, q, r⟩ := rx
    exact ⟨a, vs, rfl, .inr (sqT_sub ok.g.sub q), fun l hl => fin_lst ok en r hl⟩
  | _ => exact en.no.elim
end
end DL
set_option maxRecDepth 100000
set_option maxHeartbeats 1000000
/-! Lambdas as arguments; calls of what a name holds. -/
namespace DL
open PySem PySem.Spec L2 NdefX
open PyProof.Rows (envOfC)

/-! ### no closure of some numbers -/
mutual
def noC (p : Nat → Bool) : D → Bool
  | .tup ds => noCs p ds
  | .lst ds => noCs p ds
  | .scr ds => noCs p ds
  | .dic ks vs => noCs p ks && noCs p vs
  | .obj _ fs => noCf p fs
  | .clo n env => !p n && noCs p env
  | _ => true
def noCs (p : Nat → Bool) : List D → Bool
  | [] => true
  | d :: ds => noC p d && noCs p ds
def noCf (p : Nat → Bool) : List (Str × D) → Bool
  | [] => true
  | (_, d) :: fs => noC p d && noCf p fs
end
def noCm (p : Nat → Bool) : MO → Bool
  | .lst ds => noCs p ds
  | .ins _ fs => noCf p fs
/-- what stands in H0 stands in H0', or is a lambda's -/
def Hid (p : Nat → Bool) (H0 H0' : Hp) : Prop := ∀ a o, H0 a = some o → H0' a = some o ∨ (∃ ob n, o = CelO ob n ∧ p n = true) ∨ ((∃ φ, o = .ext φ) ∧ ∀ n, p n = true)
section
variable {S : Sta} {H0 H0' : Hp} {mm : List Addr} {p : Nat → Bool}
theorem Hid.plain (h : Hid p H0 H0') {a : Addr} {o : HO} (e : H0 a = some o) (h1 : ∀ ob n, o ≠ CelO ob n) (h2 : ∀ φ, o ≠ .ext φ) : H0' a = some o := by
  rcases h a o e with z | ⟨ob, n, z, _⟩ | ⟨⟨φ, z⟩, _⟩
  · exact z
  · exact absurd z (h1 ob n)
  · exact absurd z (h2 φ)
theorem Hid.sqT (h : Hid p H0 H0') {a : Addr} {vs : List V} : SqT S.K H0 a vs → SqT S.K H0' a vs := fun q => by
  rcases q with (q | ⟨o, q⟩) | q
  · exact .inl (.inl (h.plain q (fun _ _ z => by cases z) fun _ z => by cases z))
  · exact .inl (.inr ⟨o, h.plain q (fun _ _ z => by cases z) fun _ z => by cases z⟩)
  · exact .inr q
theorem Hid.sqL (h : Hid p H0 H0') {a : Addr} {vs : List V} : SqL S.K H0 a vs → SqL S.K H0' a vs := fun q => by
  rcases q with (q | ⟨o, q⟩) | q
  · exact .inl (.inl (h.plain q (fun _ _ z => by cases z) fun _ z => by cases z))
  · exact .inl (.inr ⟨o, h.plain q (fun _ _ z => by cases z) fun _ z => by cases z⟩)
  · exact .inr q
theorem and_l {a b : Bool} (h : (a && b) = true) : a = true := by cases a <;> simp_all
theorem and_r {a b : Bool} (h : (a && b) = true) : b = true := by cases a <;> simp_all
mutual
theorem Dp.hid (h : Hid p H0 H0') : ∀ (d : D) {v : V}, noC p d = true → Dp S H0 mm v d → Dp S H0' mm v d
  | .non, _, _, h => h
  | .bl _, _, _, h => h
  | .int _, _, _, h => h
  | .str _, _, _, h => h
  | .tup ds, _, n, ⟨a, vs, e, q, r⟩ => ⟨a, vs, e, h.sqT q, Dps.hid h ds n r⟩
  | .lst ds, _, n, ⟨a, vs, e, q, r⟩ => ⟨a, vs, e, h.plain q (fun _ _ z => by cases z) (fun _ z => by cases z), Dps.hid h ds n r⟩
  | .scr ds, _, n, ⟨a, vs, e, q, r⟩ => ⟨a, vs, e, h.sqL q, Dps.hid h ds n r⟩
  | .dic ks vs, _, n, ⟨a, kvs, e, q, r, t⟩ => ⟨a, kvs, e, h.plain q (fun _ _ z => by cases z) (fun _ z => by cases z), Dps.hid h ks (and_l n) r, Dps.hid h vs (and_r n) t⟩
  | .obj C fs, _, n, ⟨a, dx, fvs, e, q, r⟩ => ⟨a, dx, fvs, e, h.plain q (fun _ _ z => by cases z) (fun _ z => by cases z), Dfs.hid h fs n r⟩
  | .mrf k, _, _, h => h
  | .glo _, _, _, h => h
  | .clo c env, _, n, ⟨a, vs, e, q, r⟩ => by
    have nc : p c = false := by
      have z := and_l n
      cases q : p c with
      | false => rfl
      | true => rw [q] at z; cases z
    have npl : ¬ ∀ n, p n = true := fun z => by rw [z c] at nc; cases nc
    have ex : ∀ {a : Addr} {φ : Heap → Prop}, H0 a = some (.ext φ) → H0' a = some (.ext φ) := fun {a φ} e => by
      rcases h a _ e with z | ⟨ob, n, z, _⟩ | ⟨_, z⟩
      · exact z
      · cases z
      · exact absurd z npl
    obtain ⟨L, cl, cc, e0, h1, h2, hl, h3, h4, h5⟩ := q
    refine ⟨a, vs, e, ⟨L, cl, cc, e0, ex h1, ex h2, hl, h3, h4, fun i y ey => ?_⟩, Dps.hid h env (and_r n) r⟩
    obtain ⟨b, o, u, v, z1, z2, z3, z4, z5⟩ := h5 i y ey
    refine ⟨b, o, u, v, z1, ?_, z3, z4, z5⟩
    rcases h b _ z2 with z | ⟨ob, n, z, w⟩ | ⟨⟨φ, z⟩, _⟩
    · exact z
    · cases z
      rw [w] at nc
      cases nc
    · cases z
  | .ty _, _, _, h => h
theorem Dps.hid (h : Hid p H0 H0') : ∀ (ds : List D) {vs : List V}, noCs p ds = true → Dps S H0 mm vs ds → Dps S H0' mm vs ds
  | [], _, _, h => h
  | d :: ds, _, n, ⟨v, r, e, q, t⟩ => ⟨v, r, e, Dp.hid h d (and_l n) q, Dps.hid h ds (and_r n) t⟩
theorem Dfs.hid (h : Hid p H0 H0') : ∀ (fs : List (Str × D)) {fvs : List (Str × V)}, noCf p fs = true → Dfs S H0 mm fvs fs → Dfs S H0' mm fvs fs
  | [], _, _, h => h
  | (f, d) :: fs, _, n, ⟨v, r, e, q, t⟩ => ⟨v, r, e, Dp.hid h d (and_l n) q, Dfs.hid h fs (and_r n) t⟩
end
theorem noCm_all {μ : Mu} {k : Nat} {m : MO} (h : μ.all (noCm p) = true) (e : μ[k]? = some m) : noCm p m = true := List.all_eq_true.mp h m (List.mem_of_getElem? e)
theorem MoOk.hid {H H' : Hp} {a : Addr} (h : Hid p H0 H0') (e : H' a = H a) : ∀ {m : MO}, noCm p m = true → MoOk S H0 H mm a m → MoOk S H0' H' mm a m
  | .lst ds, n, ⟨vs, q, t⟩ => ⟨vs, e.trans q, Dps.hid h ds n t⟩
  | .ins _ fs, n, ⟨dx, fvs, q, t⟩ => ⟨dx, fvs, e.trans q, Dfs.hid h fs n t⟩
theorem MuOk.hid {H H' : Hp} {μ : Mu} (h : Hid p H0 H0') (m : MuOk S H0 H mm μ) (n : μ.all (noCm p) = true) (e : ∀ a ∈ mm, H' a = H a) (h0 : ∀ a ∈ mm, H0' a = none) : MuOk S H0' H' mm μ :=
  ⟨m.len, m.nd, fun k a x e1 e2 => (m.at_ k a x e1 e2).hid h (e a (List.mem_of_getElem? e1)) (noCm_all n e2), h0⟩
end

/-! ### cells hidden, cells pinned -/
/-- without the cells cs -/
def hide (cs : Addr → Bool) (H : Hp) : Hp := fun a => if cs a = true then none else H a
/-- the cells cs as in Z -/
def pinH (cs : Addr → Bool) (Z H : Hp) : Hp := fun a => if cs a = true then Z a else H a
theorem hide_in {cs : Addr → Bool} {H : Hp} {a : Addr} (h : cs a = true) : hide cs H a = none := if_pos h
theorem hide_out {cs : Addr → Bool} {H : Hp} {a : Addr} (h : cs a = false) : hide cs H a = H a := if_neg (by rw [h]; simp)
theorem pinH_in {cs : Addr → Bool} {Z H : Hp} {a : Addr} (h : cs a = true) : pinH cs Z H a = Z a := if_pos h
theorem pinH_out {cs : Addr → Bool} {Z H : Hp} {a : Addr} (h : cs a = false) : pinH cs Z H a = H a := if_neg (by rw [h]; simp)
section
variable {P : Program} {w : World} {H H' Z : Hp} {h : Heap} {cs : Addr → Bool} {n : Nat}
theorem HOk.hide (ok : HOk P w H h) (hc : ∀ a, cs a = true → H a = none ∨ ∃ o, H a = some (CelO o n)) : HOk P w (hide cs H) h := fun a o e => by
  cases q : cs a with
  | true => rw [hide_in q] at e; cases e
  | false =>
    rw [hide_out q] at e
    have kp : ∀ {b : Addr} {u : HO}, H b = some u → (∀ o, u ≠ CelO o n) → DL.hide cs H b = some u := fun {b u} eb hu => by
      rw [hide_out]
      · exact eb
      · cases z : cs b with
        | false => rfl
        | true =>
          rcases hc b z with y | ⟨o, y⟩
          · rw [eb] at y; cases y
          · rw [eb] at y; cases y; exact absurd rfl (hu o)
    exact (ok a o e).stay (fun _ _ _ z => z) (fun b z => kp z fun _ y => by cases y) fun b xs z => kp z fun _ y => by cases y
theorem HOk.pin (ok : HOk P w H h) (hn : ∀ a, cs a = true → H a = none) (hz : ∀ a, cs a = true → ∃ o, Z a = some (CelO o n) ∧ h.get? a = some o) : HOk P w (pinH cs Z H) h := fun a o e => by
  cases q : cs a with
  | true =>
    rw [pinH_in q] at e
    obtain ⟨ob, z1, z2⟩ := hz a q
    rw [z1] at e
    cases e
    exact ⟨z2, ob, z2⟩
  | false =>
    rw [pinH_out q] at e
    have kp : ∀ {b : Addr} {u : HO}, H b = some u → pinH cs Z H b = some u := fun {b u} eb => by
      rw [pinH_out]
      · exact eb
      · cases z : cs b with
        | false => rfl
        | true => rw [hn b z] at eb; cases eb
    exact (ok a o e).stay (fun _ _ _ z => z) (fun b z => kp z) fun b xs z => kp z
end

/-! ### the results of calls, seen with the cells -/
section
variable {P : Program} {w : World} {H H' Z : Hp} {s s' : Shared} {cs : Addr → Bool} {n : Nat} {outer : List PySem.Env} {Q : VK} {E : XK} {u : Value}
theorem Un.unhide {fs : List Addr} {h h' : Heap} (hz : ∀ a, cs a = true → ∃ o, H a = some (CelO o n) ∧ h.get? a = some o) (hf : ∀ b ∈ fs, H b = none) (un : Un fs [] (hide cs H) H' h h') : (∀ a, cs a = true → H' a = none) ∧ (∀ a, cs a = true → ∃ o, H a = some (CelO o n) ∧ h'.get? a = some o) ∧ Un fs [] H (pinH cs H H') h h' := by
  have nf : ∀ a, cs a = true → a ∉ fs := fun a ha z => by
    obtain ⟨o, e, _⟩ := hz a ha
    rw [hf a z] at e
    cases e
  have h1 : ∀ a, cs a = true → H' a = none := fun a ha => by
    obtain ⟨o, e, g⟩ := hz a ha
    exact un.free a o g (hide_in ha) (by simp)
  have out : ∀ {b : Addr}, H b = none → cs b = false := fun {b} e => by
    cases q : cs b with
    | false => rfl
    | true =>
      obtain ⟨o, z, _⟩ := hz b q
      rw [e] at z
      cases z
  refine ⟨h1, fun a ha => ?_, ⟨fun b o g e nb nx => ?_, fun b o g e hb nx => ?_, fun b o g e nx => ?_, fun b o g nx => ?_, fun b xs e => ?_, fun b o v e => ?_, fun b ps e => ?_⟩⟩
  · obtain ⟨o, e, g⟩ := hz a ha
    exact ⟨o, e, un.keep a o g (hide_in ha) (nf a ha) (by simp)⟩
  · exact un.keep b o g (by rw [hide_out (out e)]; exact e) nb nx
  · exact un.slot b o g (by rw [hide_out (out e)]; exact e) hb nx
  · rw [pinH_out (out e)]
    exact un.free b o g (by rw [hide_out (out e)]; exact e) nx
  · exact un.there b o g nx
  · cases q : cs b with
    | true => obtain ⟨o, z, _⟩ := hz b q; rw [e] at z; cases z
    | false => rw [pinH_out q]; exact un.tups b xs (by rw [hide_out q]; exact e)
  · cases q : cs b with
    | true => rw [pinH_in q]; exact e
    | false => rw [pinH_out q]; exact un.frzs b o v (by rw [hide_out q]; exact e)
  · cases q : cs b with
    | true => obtain ⟨o, z, _⟩ := hz b q; rw [e] at z; cases z
    | false => rw [pinH_out q]; exact un.tbls b ps (by rw [hide_out q]; exact e)
theorem CE.unhide (hz : ∀ a, cs a = true → ∃ o, H a = some (CelO o n) ∧ s.heap.get? a = some o) (hf : ∀ b ∈ frs outer, H b = none) (c : CE outer P w (hide cs H) s (fun v H' => (∀ a, cs a = true → H' a = none) → Q v (pinH cs H H')) u s') : CE outer P w H s Q u s' := by
  obtain ⟨v, H', os, ba, un, hok, r, q⟩ := c
  obtain ⟨a, b, un2⟩ := Un.unhide hz hf un
  exact ⟨v, _, os, ba, un2, DL.HOk.pin hok a b, r, q a⟩
theorem UB.unhide {fs : List Addr} {h B h' : Heap} (hz : ∀ a, cs a = true → ∃ o, H a = some (CelO o n) ∧ h.get? a = some o) (hf : ∀ b ∈ fs, H b = none) (un : UB fs (hide cs H) H' h B h') : (∀ a, cs a = true → H' a = none) ∧ (∀ a, cs a = true → ∃ o, H a = some (CelO o n) ∧ B.get? a = some o) ∧ UB fs H (pinH cs H H') h B h' := by
  have nf : ∀ a, cs a = true → a ∉ fs := fun a ha z => by
    obtain ⟨o, e, _⟩ := hz a ha
    rw [hf a z] at e
    cases e
  have h1 : ∀ a, cs a = true → H' a = none := fun a ha => by
    obtain ⟨o, e, g⟩ := hz a ha
    exact un.free a o g (hide_in ha)
  have out : ∀ {b : Addr}, H b = none → cs b = false := fun {b} e => by
    cases q : cs b with
    | false => rfl
    | true =>
      obtain ⟨o, z, _⟩ := hz b q
      rw [e] at z
      cases z
  refine ⟨h1, fun a ha => ?_, ⟨fun b o g e nb => ?_, fun b o g hb => ?_, fun b o g e => ?_, fun b o g nx => ?_, fun b xs e => ?_, fun b o v e => ?_, fun b ps e => ?_⟩⟩
  · obtain ⟨o, e, g⟩ := hz a ha
    exact ⟨o, e, un.keep a o g (hide_in ha) (nf a ha)⟩
  · exact un.keep b o g (by rw [hide_out (out e)]; exact e) nb
  · exact un.slot b o g hb
  · rw [pinH_out (out e)]
    exact un.free b o g (by rw [hide_out (out e)]; exact e)
  · exact un.there b o g nx
  · cases q : cs b with
    | true => obtain ⟨o, z, _⟩ := hz b q; rw [e] at z; cases z
    | false => rw [pinH_out q]; exact un.tups b xs (by rw [hide_out q]; exact e)
  · cases q : cs b with
    | true => rw [pinH_in q]; exact e
    | false => rw [pinH_out q]; exact un.frzs b o v (by rw [hide_out q]; exact e)
  · cases q : cs b with
    | true => obtain ⟨o, z, _⟩ := hz b q; rw [e] at z; cases z
    | false => rw [pinH_out q]; exact un.tbls b ps (by rw [hide_out q]; exact e)
theorem CX.unhide (hz : ∀ a, cs a = true → ∃ o, H a = some (CelO o n) ∧ s.heap.get? a = some o) (hf : ∀ b ∈ frs outer, H b = none) (c : L2.CX P w outer (hide cs H) s (fun cls od H' => (∀ a, cs a = true → H' a = none) → E cls od (pinH cs H H')) u s') : L2.CX P w outer H s E u s' := by
  obtain ⟨a, B, H', cls, d, e, fl, hok, ub, na, os, ba, q⟩ := c
  obtain ⟨x, y, ub2⟩ := UB.unhide hz hf ub
  refine ⟨a, B, _, cls, d, e, fl, DL.HOk.pin hok x y, ub2, ?_, os, ba, q x⟩
  cases z : cs a with
  | false => rw [pinH_out z]; exact na
  | true =>
    obtain ⟨o, _, g⟩ := y a z
    rw [fl.2.1] at g
    cases g
end

/-! ### the lambda's body -/
theorem Hid.hide {H0 : Hp} {cs : Addr → Bool} {n : Nat} (h : ∀ a, cs a = true → H0 a = none ∨ ∃ o, H0 a = some (CelO o n)) : Hid (· == n) H0 (DL.hide cs H0) := fun a o e => by
  cases q : cs a with
  | false => rw [hide_out q]; exact .inl e
  | true =>
    rcases h a q with z | ⟨ob, z⟩
    · rw [e] at z; cases z
    · rw [e] at z; cases z
      exact .inr (.inl ⟨ob, n, rfl, by simp⟩)
def startL (n : Nat) (ds env : List D) : Env := ds.map .fz ++ (env.map .fz ++ List.replicate (n - ds.length - env.length) .un)
def endL : R Vl → RF
  | .ok (.val d) _ μ => .ok d μ
  | .exc x _ μ => .exc x μ
  | _ => .no
/-- what a lambda of the number num makes of data -/
def lamF (num n : Nat) (g : EF Vl) (env : List D) : DF := fun ds μ => match noCs (· == num) env && (noCs (· == num) ds && μ.all (noCm (· == num))) with
  | true => endL (gFrz g (startL n ds env) μ)
  | false => .no
/-- what is known of a value that may be called -/
def Runs (P : Program) (w : World) (S : Sta) (mg : Str → Option Value) (base : Heap) (k n : Nat) (m : DF) (f : Addr) (H0 : Hp) (mm : List Addr) : Prop :=
  ∀ (A : Around) (outer : List PySem.Env) (s : Shared) (H : Hp) (us : List Value) (vs : List V) (ds : List D) (μ : Mu) (Q : VK) (E : XK), Room k A → Env0 P w S.K mg base A outer s H → Vals vs us → Glo S H0 H mm μ → Dps S H0 mm vs ds → ds.length = n →
    (match m ds μ with
    | .ok d μ' => ∀ v H0' H' mm', Glo S H0' H' mm' μ' → Nx (fun _ => False) H0 H mm H0' H' mm' → Dp S H0' mm' v d → Q v H'
    | .exc x μ' => ∀ cls od H0' H' mm', Glo S H0' H' mm' μ' → Nx (fun _ => False) H0 H mm H0' H' mm' → XRep S H0' H' mm' cls od x → E cls od H'
    | .no => False) → codeAny (model P w) A (.call (.ref f) ⟨us, []⟩) (CR (L2.CX P w) outer P w H s Q E) s
section
variable {P : Program} {w : World} {S : Sta} {mg : Str → Option Value} {base : Heap}
theorem startL_ok {H0 H : Hp} {mm : List Addr} {μ : Mu} {N : List Str} {vs ws : List V} {ds env : List D} (g : Glo S H0 H mm μ) (h : Dps S H0 mm vs ds) (h2 : Dps S H0 mm ws env) : Ok S H0 H mm μ (startF N vs (ws.map some)) (startL N.length ds env) := by
  have hl := h.length
  have hl2 := h2.length
  have nown : ∀ (i : Nat) (d : D), (startL N.length ds env)[i]? = some (.ow d) → False := fun i d e => by
    unfold startL at e
    rcases List.mem_append.mp (List.mem_of_getElem? e) with z | z
    · obtain ⟨_, _, z⟩ := List.mem_map.mp z
      cases z
    · rcases List.mem_append.mp z with z | z
      · obtain ⟨_, _, z⟩ := List.mem_map.mp z
        cases z
      · obtain ⟨_, z⟩ := List.mem_replicate.mp z
        cases z
  refine ⟨g, by unfold startF startL; simp [hl, hl2], fun i s e => ?_, fun i j a d d' _ e _ _ _ => (nown i d e).elim⟩
  cases s with
  | un => trivial
  | ow d => exact (nown i d e).elim
  | fz d =>
    unfold startL at e
    unfold startF
    by_cases hi : i < ds.length
    · rw [List.getElem?_append_left (by simpa using hi), List.getElem?_map] at e
      cases q : ds[i]? with
      | none => rw [q] at e; cases e
      | some d' =>
        rw [q] at e
        cases e
        obtain ⟨v, ev, dv⟩ := h.get q
        exact ⟨v, by rw [List.getElem?_append_left (by simpa [hl] using hi), List.getElem?_map, ev]; rfl, dv⟩
    · rw [List.getElem?_append_right (by simpa using hi), List.length_map] at e
      have e0 : (vs.map some).length = ds.length := by rw [List.length_map, hl]
      rw [List.getElem?_append_right (by rw [e0]; omega), e0]
      by_cases hj : i - ds.length < env.length
      · rw [List.getElem?_append_left (by simpa using hj), List.getElem?_map] at e
        rw [List.getElem?_append_left (by simpa [hl2] using hj), List.getElem?_map]
        cases q : env[i - ds.length]? with
        | none => rw [q] at e; cases e
        | some d' =>
          rw [q] at e
          cases e
          obtain ⟨v, ev, dv⟩ := h2.get q
          exact ⟨v, by rw [ev]; rfl, dv⟩
      · rw [List.getElem?_append_right (by simpa using hj)] at e
        obtain ⟨_, z⟩ := List.mem_replicate.mp (List.mem_of_getElem? e)
        cases z
theorem startL_own {N : List Str} {vs ws : List V} {ds env : List D} {a : Addr} : ¬ Own (startF N vs (ws.map some)) (startL N.length ds env) a := fun ⟨i, d, e, _⟩ => by
  unfold startL at e
  rcases List.mem_append.mp (List.mem_of_getElem? e) with z | z
  · obtain ⟨_, _, z⟩ := List.mem_map.mp z
    cases z
  · rcases List.mem_append.mp z with z | z
    · obtain ⟨_, _, z⟩ := List.mem_map.mp z
      cases z
    · obtain ⟨_, z⟩ := List.mem_replicate.mp z
      cases z
/-- the captured names' cells, in one -/
def clB (fr : List Str) (cl : List (Str × Addr)) : Addr → Bool := fun a => fr.any fun y => cl.lookup y == some a
theorem clB_look {fr : List Str} {cl : List (Str × Addr)} {y : Str} {a : Addr} (hy : y ∈ fr) (h : cl.lookup y = some a) : clB fr cl a = true := List.any_eq_true.mpr ⟨y, hy, by simp [h]⟩
theorem clB_of {fr : List Str} {cl : List (Str × Addr)} {a : Addr} (h : clB fr cl a = true) : ∃ y ∈ fr, cl.lookup y = some a := by
  obtain ⟨y, hy, e⟩ := List.any_eq_true.mp h
  exact ⟨y, hy, by simpa using e⟩
theorem endL_ok {r : R Vl} {d : D} {μ' : Mu} (h : endL r = .ok d μ') : ∃ ρ', r = .ok (.val d) ρ' μ' := by
  cases r with
  | ok x ρ' μ =>
    cases x with
    | val d' => cases h; exact ⟨_, rfl⟩
    | frs d' => cases h
    | slt i => cases h
  | exc x ρ' μ => cases h
  | no => cases h
theorem endL_exc {r : R Vl} {x : Exn} {μ' : Mu} (h : endL r = .exc x μ') : ∃ ρ', r = .exc x ρ' μ' := by
  cases r with
  | ok x ρ' μ =>
    cases x with
    | val d' => cases h
    | frs d' => cases h
    | slt i => cases h
  | exc x ρ' μ => cases h; exact ⟨_, rfl⟩
  | no => cases h
abbrev lamNF (L : LamT) (cl : List (Str × Addr)) (c : Addr) : NF := ⟨"<lambda>", L.qual, L.params, [], L.scope, cl, c⟩
/-- back with the cells -/
theorem Glo.pin {H0 H H0' H' : Hp} {mm' : List Addr} {μ' : Mu} {cs : Addr → Bool} {n : Nat} (g : Glo S H0' H' mm' μ') (s : Sub H0 H) (hz : ∀ a, cs a = true → ∃ o, H0 a = some (CelO o n)) (hn : ∀ a, cs a = true → H' a = none) (hm : ∀ a ∈ mm', cs a = false) :
    Glo S (pinH cs H0 H0') (pinH cs H H') mm' μ' ∧ Sub H0' (pinH cs H0 H0') := by
  have n0 : ∀ a, cs a = true → H0' a = none := fun a ha => by
    cases q : H0' a with
    | none => rfl
    | some o => have z := g.sub _ _ q; rw [hn a ha] at z; cases z
  have sb : Sub H0' (pinH cs H0 H0') := fun a o e => by
    rw [pinH_out]
    · exact e
    · cases q : cs a with
      | false => rfl
      | true => rw [n0 a q] at e; cases e
  have sb' : Sub H' (pinH cs H H') := fun a o e => by
    rw [pinH_out]
    · exact e
    · cases q : cs a with
      | false => rfl
      | true => rw [hn a q] at e; cases e
  refine ⟨⟨fun a o e => ?_, ⟨g.mu.len, g.mu.nd, fun k a m e1 e2 => (g.mu.at_ k a m e1 e2).mono sb .refl (pinH_out (hm a (List.mem_of_getElem? e1))), fun a ha => ?_⟩, g.tab.ext sb', fun a ps e => ?_⟩, sb⟩
  · cases q : cs a with
    | true =>
      rw [pinH_in q] at e ⊢
      exact s _ _ e
    | false =>
      rw [pinH_out q] at e ⊢
      exact g.sub _ _ e
  · rw [pinH_out (hm a ha)]
    exact g.mu.h0 a ha
  · cases q : cs a with
    | true =>
      rw [pinH_in q] at e
      obtain ⟨o, z⟩ := hz a q
      rw [e] at z
      cases z
    | false =>
      rw [pinH_out q] at e
      exact g.nt a ps e
theorem tabs_hide {T : Tbl} {H H' : Hp} (t : LamX.Tabs T H) (h1 : ∀ b ps, H b = some (.tbl ps) → H' b = some (.tbl ps)) (h2 : ∀ b φ, H b = some (.ext φ) → H' b = some (.ext φ)) : LamX.Tabs T H' := fun p hp => by
  obtain ⟨ps, a, b, c⟩ := t p hp
  refine ⟨ps, h1 _ _ a, b, fun pos cv h => ?_⟩
  obtain ⟨x, e1, e2⟩ := c pos cv h
  exact ⟨x, e1, h2 _ _ e2⟩
/-- the world without a lambda's cells -/
theorem Glo.hide {H0 H : Hp} {mm : List Addr} {μ : Mu} {cs : Addr → Bool} {n : Nat} (g : Glo S H0 H mm μ) (hz : ∀ a, cs a = true → ∃ o, H0 a = some (CelO o n)) (nm : μ.all (noCm (· == n)) = true) (hm : ∀ a ∈ mm, cs a = false) : Glo S (DL.hide cs H0) (DL.hide cs H) mm μ := by
  have hd : Hid (· == n) H0 (DL.hide cs H0) := Hid.hide fun a ha => .inr (hz a ha)
  have kp : ∀ {b : Addr} {u : HO}, H b = some u → (∀ o, u ≠ CelO o n) → DL.hide cs H b = some u := fun {b u} eb hu => by
    rw [hide_out]
    · exact eb
    · cases z : cs b with
      | false => rfl
      | true =>
        obtain ⟨o, y⟩ := hz b z
        have y := g.sub _ _ y
        rw [eb] at y
        cases y
        exact absurd rfl (hu o)
  refine ⟨fun a o e => ?_, g.mu.hid hd nm (fun a ha => hide_out (hm a ha)) (fun a ha => by rw [hide_out (hm a ha)]; exact g.mu.h0 a ha), tabs_hide g.tab (fun b ps e => kp e fun _ y => by cases y) (fun b φ e => kp e fun _ y => by cases y), fun a ps e => ?_⟩
  cases q : cs a with
  | true => rw [hide_in q] at e; cases e
  | false =>
    rw [hide_out q] at e ⊢
    exact g.sub _ _ e
  cases q : cs a with
  | true => rw [hide_in q] at e; cases e
  | false =>
    rw [hide_out q] at e
    exact g.nt a ps e
end
end DL
set_option maxRecDepth 100000
set_option maxHeartbeats 1000000
/-! A lambda's run; a lambda as a call's last argument. -/
namespace DL
open PySem PySem.Spec L2 NdefX
open PyProof.Rows (envOfC)
section
variable {P : Program} {w : World} {S : Sta} {mg : Str → Option Value} {base : Heap}
/-- from the world without the cells back -/
theorem Nx.unhide {H0 H H0' H' : Hp} {mm mm' : List Addr} {cs : Addr → Bool} {n : Nat} (x : Nx (fun _ => False) (DL.hide cs H0) (DL.hide cs H) mm H0' H' mm') (hz : ∀ a, cs a = true → ∃ o, H0 a = some (CelO o n)) (s : Sub H0 H) (hm : ∀ a ∈ mm', cs a = false) : Nx (fun _ => False) H0 H mm (pinH cs H0 H0') (pinH cs H H') mm' := by
  refine ⟨fun a o e => ?_, fun a h _ => ?_, fun a o e hm _ t => ?_, fun a h => ?_, ?_⟩
  · cases q : cs a with
    | true => rw [pinH_in q]; exact e
    | false => rw [pinH_out q]; exact x.old0 a o (by rw [hide_out q]; exact e)
  · cases q : cs a with
    | true => rw [pinH_in q]
    | false =>
      rw [pinH_out q, x.new0 a (by rw [hide_out q]; exact h) (fun z => z), hide_out q]
  · cases q : cs a with
    | true => rw [pinH_in q]; exact e
    | false => rw [pinH_out q]; exact x.keep a o (by rw [hide_out q]; exact e) hm (fun z => z) t
  · cases q : cs a with
    | true => rw [pinH_in q]; exact h
    | false => rw [pinH_out q]; exact x.grow a (by rw [hide_out q]; exact h)
  · obtain ⟨m, e1, e2⟩ := x.mmx
    exact ⟨m, e1, fun a ha => by
      cases q : cs a with
      | false =>
        have z := e2 a ha
        rw [hide_out q] at z
        exact z
      | true => rw [hm a (by rw [e1]; exact List.mem_append.mpr (.inr ha))] at q; cases q⟩
theorem XRep.sub {H0 H H0' H' : Hp} {mm : List Addr} {cls : Value} {od : Option Addr} {x : Exn} (h : XRep S H0 H mm cls od x) (s : Sub H0 H0') (s' : Sub H H') : XRep S H0' H' mm cls od x := by
  obtain ⟨a, b⟩ := h
  refine ⟨a, ?_⟩
  cases q : x.fs with
  | nil => exact .inr trivial
  | cons f fs =>
    rw [q] at b
    obtain ⟨d, fvs, e1, e2, e3⟩ := b
    exact ⟨d, fvs, e1, s' _ _ e2, Dfs.mono s .refl _ e3⟩
/-- THE RULE for a lambda's body -/
theorem lam_runs {N ps : List Str} {L : LamT} {num k : Nat} {g : EF Vl} (hL : S.L num = some L) (Sc : NScope N ps L.fr L.scope) (hb : ∀ (cl : List (Str × Addr)) (pm cdv ctv : Value) (us : List Value), us.length = ps.length → bindArgs (PySem.W.kla_fn "<lambda>" L.qual L.params L.body L.scope cl pm cdv ctv) ⟨us, []⟩ = pure (ps.zip us))
    (hbody : ∀ (f : Addr) (cl : List (Str × Addr)) (c : Addr) (A : Around) (outer : List PySem.Env) (s : Shared) (H : Hp) (E : XK), Room k (A.deeper (envF (lamNF L cl c) f s.heap.objs.size)) → Takes (ncx (L2.CX P w) P w S.K mg base N (lamNF L cl c) f A outer s H E) (WE E) →
      PE (ncx (L2.CX P w) P w S.K mg base N (lamNF L cl c) f A outer s H E) L.body (rd S (WE E) g))
    {f : Addr} {ws : List V} {env : List D} {H0 : Hp} {mm : List Addr} (hC : lamC S.L num f ws H0) (hE : Dps S H0 mm ws env) : Runs P w S mg base (k + 1) ps.length (lamF num N.length g env) f H0 mm := by
  intro A outer s H us vs ds μ Q E hr e0 r gl dv hl en
  obtain ⟨L', cl, c, hL', hf, hc, wl, h3, h4, h5⟩ := hC
  rw [hL] at hL'
  cases hL'
  unfold lamF at en
  cases hno : (noCs (· == num) env && (noCs (· == num) ds && μ.all (noCm (· == num)))) with
  | false => rw [hno] at en; exact en.elim
  | true =>
    rw [hno] at en
    have nE := and_l hno
    have nD := and_l (and_r hno)
    have nM := and_r (and_r hno)
    obtain ⟨cs, hcs⟩ : ∃ cs, cs = clB L.fr cl := ⟨_, rfl⟩
    have hz : ∀ a, cs a = true → ∃ o, H0 a = some (CelO o num) := fun a ha => by
      rw [hcs] at ha
      obtain ⟨y, hy, e⟩ := clB_of ha
      obtain ⟨i, hi, ei⟩ := List.mem_iff_getElem.mp hy
      obtain ⟨b, o, u, v, z1, z2, _⟩ := h5 i y (by rw [List.getElem?_eq_getElem hi, ei])
      rw [e] at z1
      cases z1
      exact ⟨o, z2⟩
    have hzH : ∀ a, cs a = true → ∃ o, H a = some (CelO o num) ∧ s.heap.get? a = some o := fun a ha => by
      obtain ⟨o, e⟩ := hz a ha
      exact ⟨o, gl.sub _ _ e, (e0.hok a _ (gl.sub _ _ e)).1⟩
    have hmm : ∀ {H0' H' : Hp} {mm' : List Addr} {μ' : Mu}, Glo S H0' H' mm' μ' → (∀ a, cs a = true → H' a = none ∨ ∃ o, H' a = some (CelO o num)) → ∀ a ∈ mm', cs a = false := fun {H0' H' mm' μ'} g h a ha => by
      cases q : cs a with
      | false => rfl
      | true =>
        obtain ⟨k, hk, e⟩ := List.mem_iff_getElem.mp ha
        have e1 : mm'[k]? = some a := by rw [List.getElem?_eq_getElem hk, e]
        have mo := g.mu.at_ k a _ e1 (List.getElem?_eq_getElem (by rw [← g.mu.len]; exact hk))
        cases z : μ'[k]'(by rw [← g.mu.len]; exact hk) with
        | lst ds =>
          rw [z] at mo
          obtain ⟨vs, y, _⟩ := mo
          rcases h a q with x | ⟨o, x⟩ <;> rw [x] at y <;> cases y
        | ins C fs =>
          rw [z] at mo
          obtain ⟨dx, vs, y, _⟩ := mo
          rcases h a q with x | ⟨o, x⟩ <;> rw [x] at y <;> cases y
    have hm0 : ∀ a ∈ mm, cs a = false := hmm gl fun a ha => .inr (let ⟨o, e, _⟩ := hzH a ha; ⟨o, e⟩)
    have hid : Hid (· == num) H0 (DL.hide cs H0) := Hid.hide fun a ha => .inr (hz a ha)
    have gl2 : Glo S (DL.hide cs H0) (DL.hide cs H) mm μ := gl.hide hz nM hm0
    have dv2 : Dps S (DL.hide cs H0) mm vs ds := Dps.hid hid ds nD dv
    have dE2 : Dps S (DL.hide cs H0) mm ws env := Dps.hid hid env nE hE
    have frn : ∀ b ∈ frs outer, H b = none := e0.frf
    have e2 : Env0 P w S.K mg base A outer s (DL.hide cs H) := by
      have nn : ∀ b, H b = none → DL.hide cs H b = none := fun b e => by
        cases q : cs b with
        | true => exact hide_in q
        | false => rw [hide_out q]; exact e
      exact ⟨e0.frames, e0.mod, fun b o e => ⟨(e0.bs b o e).1, nn b (e0.bs b o e).2⟩, e0.bsz, e0.funs, fun b hb => nn b (frn b hb), DL.HOk.hide e0.hok fun a ha => .inr (let ⟨o, e, _⟩ := hzH a ha; ⟨o, e⟩), e0.bare⟩
    have lim : s.heap.NoLimit := e0.mod.nolimit.keeps fun b o e => (e0.bs b o e).1
    obtain ⟨⟨od, sl, pm, ctv, ho⟩, _, _⟩ := e0.hok f _ (gl.sub _ _ hf)
    have cat : CellsAt cl L.fr (ws.map some) s.heap (DL.hide cs H) := by
      have nth : ∀ {y : Str}, y ∈ L.fr → ∃ (i : Nat), L.fr[i]? = some y := fun {y} hy => by
        obtain ⟨i, hi, ei⟩ := List.mem_iff_getElem.mp hy
        exact ⟨i, by rw [List.getElem?_eq_getElem hi, ei]⟩
      refine ⟨by rw [List.length_map]; exact wl, fun y a e => ?_, fun x y a => h4 x y a, fun i y e => ?_⟩
      · have hy := h3 y a e
        obtain ⟨i, ei⟩ := nth hy
        obtain ⟨b, o, u, v, z1, z2, z3, _, _⟩ := h5 i y ei
        rw [e] at z1
        cases z1
        exact ⟨hide_in (by rw [hcs]; exact clB_look hy e), some u, o, (e0.hok a _ (gl.sub _ _ z2)).1, z3⟩
      · obtain ⟨b, o, u, v, z1, z2, z3, z4, z5⟩ := h5 i y e
        refine ⟨b, z1, fun v' ev => ?_⟩
        rw [List.getElem?_map, z4] at ev
        cases ev
        exact ⟨u, z5, o, (e0.hok b _ (gl.sub _ _ z2)).1, z3⟩
    have vl : vs.length = ps.length := by rw [dv.length, hl]
    -- the run in the world without the cells
    have main : codeAny (model P w) A (.call (.ref f) ⟨us, []⟩) (CR (L2.CX P w) outer P w (DL.hide cs H) s (fun v H' => (∀ a, cs a = true → H' a = none) → Q v (pinH cs H H')) (fun cls od H' => (∀ a, cs a = true → H' a = none) → E cls od (pinH cs H H'))) s := by
      refine PySem.W.kla_callFunE hr.depth ho rfl Sc.co Sc.gen rfl (codeO_at e0.hok (gl.sub _ _ hc)) ?_
      rw [hb cl pm (.ref c) ctv us (by rw [← r.length]; exact vl)]
      refine wpAny_pure (wpAny_newFunctionEnv Sc.nocell (fun ⟨n, _⟩ hy => Sc.par n (List.of_mem_zip hy).1) (fun h₁ hns hsb => ⟨lim.fresh _ hsb, ?_⟩) Sc.kind)
      have kp : ∀ b o, s.heap.get? b = some o → h₁.get? b = some o := fun b o e => hsb.extBut b o (Nat.ne_of_lt (Heap.lt_size e)) (Heap.get?_push_of_some _ e)
      have I := inv_startN (CX := L2.CX P w) (F := lamNF L cl c) (f := f) (E := fun cls od H' => (∀ a, cs a = true → H' a = none) → E cls od (pinH cs H H')) (tk := s.toks + (ps.zip us).length) Sc hr.hd e2 vl r cat hns kp
      refine PySem.W.kla_codeExpr (wpAny_mono ((e_frz (hbody f cl c A outer s (DL.hide cs H) _ (hr.deeper _) (takes_of rfl rfl rfl rfl))).run [] _ _ _ (fun v H' => (∀ a, cs a = true → H' a = none) → Q v (pinH cs H H')) I ?_) (fun v s' hq => ?_) fun e s' hq => hq)
      · refine ⟨DL.hide cs H0, mm, startL N.length ds env, μ, startL_ok gl2 dv2 dE2, ?_⟩
        have nst : ∀ {H0' H' : Hp} {mm' : List Addr}, Nx (Own (startF N vs (ws.map some)) (startL N.length ds env)) (DL.hide cs H0) (DL.hide cs H) mm H0' H' mm' → Nx (fun _ => False) (DL.hide cs H0) (DL.hide cs H) mm H0' H' mm' := fun {H0' H' mm'} n =>
          ⟨n.old0, fun a h _ => n.new0 a h startL_own, fun a o e h _ t => n.keep a o e h startL_own t, n.grow, n.mmx⟩
        cases q : gFrz g (startL N.length ds env) μ with
        | no => rw [q] at en; exact en.elim
        | exc x ρ' μ' =>
          rw [q] at en
          intro cls od H0' H' mm' ok' nx _ xr hn
          have hm' := hmm ok'.g fun a ha => .inl (hn a ha)
          obtain ⟨g2, sb⟩ := ok'.g.pin gl.sub hz hn hm'
          refine en cls od _ _ mm' g2 ((nst nx).unhide hz gl.sub hm') (xr.sub sb fun a o e => ?_)
          rw [pinH_out]
          · exact e
          · cases q : cs a with
            | false => rfl
            | true => rw [hn a q] at e; cases e
        | ok x ρ' μ' =>
          rw [q] at en
          obtain ⟨d, rfl⟩ : ∃ d, x = .val d := by
            unfold gFrz bnd at q
            cases q2 : g (startL N.length ds env) μ with
            | ok y ρ2 μ2 => rw [q2] at q; exact frzV_val q
            | exc y ρ2 μ2 => rw [q2] at q; cases q
            | no => rw [q2] at q; cases q
          intro v H0' H' mm' ok' nx _ _ dp hn
          have hm' := hmm ok'.g fun a ha => .inl (hn a ha)
          obtain ⟨g2, sb⟩ := ok'.g.pin gl.sub hz hn hm'
          exact en v _ _ mm' g2 ((nst nx).unhide hz gl.sub hm') (Dp.mono sb .refl d dp)
      · obtain ⟨v', H', J, rv, q⟩ := hq
        exact ⟨v', H', J.os, J.bare, J.base, J.hok, rv, q⟩
    refine codeAny_mono main fun r s' hq => ?_
    cases r with
    | error e => exact CX.unhide (n := num) hzH frn hq
    | ok fl =>
      cases fl with
      | ret u => exact CE.unhide (n := num) hzH frn hq
      | next => exact False.elim hq
      | brk => exact False.elim hq
      | cont => exact False.elim hq
end
end DL
set_option maxRecDepth 100000
set_option maxHeartbeats 1000000
/-! A lambda is made; it is a call's last argument. -/
namespace DL
open PySem PySem.Spec L2 NdefX
open PyProof.Rows (envOfC)
section
variable {X : Cx} {pins : List (Addr × Obj)} {σ : L2.St} {H : Hp} {s : Shared}
theorem lamO_put {L : LamT} {cl : List (Str × Addr)} {c : Addr} {t' : Nat} {pm ctv : Value} (I : Inv X pins σ H s) :
    Inv X pins σ (upd H s.heap.objs.size (LamO s.heap.objs.size L cl c)) { s with heap := s.heap.push (PySem.W.kla_obj "<lambda>" L.qual L.params L.body L.scope cl pm c ctv), toks := t' } := by
  have e : (s.heap.push (PySem.W.kla_obj "<lambda>" L.qual L.params L.body L.scope cl pm c ctv)).get? s.heap.objs.size = some (PySem.W.kla_obj "<lambda>" L.qual L.params L.body L.scope cl pm c ctv) := Heap.get?_push_size _ rfl
  exact I.laid (a := s.heap.objs.size) (fun b u e => Heap.get?_push_of_some _ e) (Nat.le_refl _) ⟨⟨_, _, pm, ctv, e⟩, ⟨_, e⟩, fun h1 h2 ⟨od, sl, p, t, z⟩ st => ⟨od, sl, p, t, st _ z⟩⟩
/-- the lambda's function object is new, and known from now on -/
theorem lam_new {T : Tbl} {c P : Addr} {L : LamT} {pos : Pos} {E : Value → Shared → Prop} {Q : Value → Shared → Prop} (I : Inv X pins σ H s) (B : LamX.TabB X.base X.mg c P) (hc : X.env.code = .ref c) (hq : X.env.qual ++ "<lambda>" = L.qual)
    (hm : (P, L.qual) ∈ T) (hu : ∀ p ∈ T, p.1 = P → p.2 = L.qual) (hT : LamX.Tabs T H) (hdef : defaultsOf L.params X.env = ([], [])) (hfree : ∀ y ∈ L.scope.names, y.2 = .free → ∃ c, X.env.cells.lookup y.1 = some c)
    (k : ∀ (f d : Addr) (H1 : Hp) (s' : Shared), Inv X pins σ H1 s' → LamX.ExtN H H1 → (∀ b, H1 b = none → H b = none) → LamX.Tabs T H1 → H f = none → H1 f = some (LamO f L (cloFrom X.env.cells L.scope.names []) d) → H1 d = some (LamX.CodeO d L.qual) → Q (.ref f) s') :
    wpAny (model X.prog X.w) X.A (eval (.Lambda L.params L.body L.scope pos) X.env) Q E s := by
  obtain ⟨ps, e1, e2, e3⟩ := hT _ hm
  have e1' : s.heap.get? P = some { cls := .none, data := .fields ps } := I.hok P _ e1
  have bm : s.heap.BuiltinsAt X.mg P := B.bm.keeps I.bk
  refine PySem.W.kla_eval hdef ?_
  rw [hq]
  rcases hca : codeAmong pos ps.toList with _ | cv
  · refine PySem.W.kla_makeFunction (mg := X.mg) (c := c) (P := P) (ps := ps) (L2.closure_ok hfree) I.ok.glob (I.mod.glob.keeps I.bk) hc (B.code.keeps I.bk) e1' e2 hca B.gP bm ?_
    intro d ctv h' tk ext ge lt rec tab
    obtain ⟨d2, oc, vs, t, ed, hoc, hd, hv⟩ := rec
    cases ed
    have nd : H d = none := I.hok.fresh ge
    have J := LamX.inv_table (t' := tk) (more := #[rawInt pos.line, rawInt pos.col, .ref d]) (h' := h') (q := L.qual) I e1 (fun b o hb z => ext b o hb z) tab ge ⟨oc, vs, t, hoc, hd, hv⟩
    obtain ⟨H2, hH2⟩ : ∃ H2, H2 = upd (upd H P (.tbl (ps ++ #[rawInt pos.line, rawInt pos.col, .ref d]))) d (LamX.CodeO d L.qual) := ⟨_, rfl⟩
    rw [← hH2] at J
    have old : LamX.ExtN H H2 := fun b o z nt => by
      rw [hH2, upd_ne (ne_of_none z nd), upd_ne fun y => by rw [y, e1] at z; cases z; exact nt _ rfl]
      exact z
    have back : ∀ b, H2 b = none → H b = none := fun b z => by
      rw [hH2] at z
      exact upd_none (upd_none z)
    have e4 : (ps ++ #[rawInt pos.line, rawInt pos.col, .ref d]).toList = ps.toList ++ [rawInt pos.line, rawInt pos.col, .ref d] := by simp
    have T2 : LamX.Tabs T H2 := fun p hp => by
      by_cases hP : p.1 = P
      · rw [hP, hu p hp hP]
        refine ⟨ps ++ #[rawInt pos.line, rawInt pos.col, .ref d], by rw [hH2, upd_ne (ne_of_none e1 nd), upd_same], by rw [e4]; exact PySem.TriplesOk_snoc _ _ _ _ e2, fun pos' cv z => ?_⟩
        rw [e4] at z
        rcases LamX.among_app _ e2 z with y | y
        · obtain ⟨x, y1, y2⟩ := e3 pos' cv y
          exact ⟨x, y1, old _ _ y2 LamX.codeO_ne⟩
        · exact ⟨d, y, by rw [hH2]; exact upd_same⟩
      · obtain ⟨qs, z1, z2, z3⟩ := hT p hp
        refine ⟨qs, by rw [hH2, upd_ne (ne_of_none z1 nd), upd_ne hP]; exact z1, z2, fun pos' cv z => ?_⟩
        obtain ⟨x, y1, y2⟩ := z3 pos' cv z
        exact ⟨x, y1, old _ _ y2 LamX.codeO_ne⟩
    have nf : H2 h'.objs.size = none := J.hok.fresh (Nat.le_refl _)
    have sb : Sub H2 (upd H2 h'.objs.size (LamO h'.objs.size L (cloFrom X.env.cells L.scope.names []) d)) := Sub.alloc nf
    refine k h'.objs.size d _ _ (lamO_put (L := L) (cl := cloFrom X.env.cells L.scope.names []) (c := d) (t' := tk) (pm := (X.mg "__name__").getD .none) (ctv := ctv) J) (fun b o z nt => sb _ _ (old b o z nt)) (fun b z => back b (upd_none z)) (T2.ext sb) (back _ nf) upd_same ?_
    exact sb _ _ (by rw [hH2]; exact upd_same)
  · obtain ⟨d, ed, hco⟩ := e3 pos cv hca
    subst ed
    refine PySem.W.kla_makeFunctionHit (mg := X.mg) (c := c) (P := P) (ps := ps) (L2.closure_ok hfree) I.ok.glob (I.mod.glob.keeps I.bk) hc (B.code.keeps I.bk) e1' e2 hca bm ?_
    intro ctv h' tk keep hsz
    have J : Inv X pins σ H { s with heap := h', toks := tk } := I.kept keep
    have nf : H h'.objs.size = none := J.hok.fresh (Nat.le_refl _)
    have sb : Sub H (upd H h'.objs.size (LamO h'.objs.size L (cloFrom X.env.cells L.scope.names []) d)) := Sub.alloc nf
    exact k h'.objs.size d _ _ (lamO_put (L := L) (cl := cloFrom X.env.cells L.scope.names []) (c := d) (t' := tk) (pm := (X.mg "__name__").getD .none) (ctv := ctv) J) (fun b o z _ => sb _ _ z) (fun b z => upd_none z) (hT.ext sb) nf upd_same (sb _ _ hco)
end

/-! ### argument lists that end in a lambda -/
/-- data, then the lambda's function -/
structure LamAt (S : Sta) (L : LamT) (cl : List (Str × Addr)) (H0 H : Hp) (mm : List Addr) (σ : St) (ρ : Env) (f c : Addr) : Prop where
  f0 : H0 f = some (LamO f L cl c)
  code : H c = some (LamX.CodeO c L.qual)
  cm : c ∉ mm
  co : ¬ Own σ ρ c
def knM (S : Sta) (L : LamT) (cl : List (Str × Addr)) : Knd S (List D) (List V) where
  A := fun _ H0 H mm σ ρ vs ds => ∃ (vs0 : List V) (f c : Addr), vs = vs0 ++ [.ref f] ∧ Dps S H0 mm vs0 ds ∧ LamAt S L cl H0 H mm σ ρ f c
  nx := fun n w k ⟨vs0, f, c, e, dv, la⟩ => by
    have hn : ∀ {o : HO} {c : Addr} {H : Hp}, H c = some o → H c ≠ none := fun e => by rw [e]; simp
    refine ⟨vs0, f, c, e, dv.nx n, n.old0 _ _ la.f0, n.keep _ _ la.code la.cm la.co (fun ps z => LamX.codeO_ne ps z), fun z => ?_, fun z => (w _ z).elim la.co (hn la.code)⟩
    obtain ⟨more, e1, e2⟩ := n.mmx
    rw [e1] at z
    rcases List.mem_append.mp z with z | z
    · exact la.cm z
    · exact hn la.code (e2 _ z)
  fr := fun _ h => h
abbrev ral (S : Sta) (W : WX) (L : LamT) (cl : List (Str × Addr)) (g : EF (List D)) : TA := rdK W (knM S L cl) g
def aLam : EF (List D) := ret []
section
variable {S : Sta} {W : WX} {X : Cx} {pos : Pos} {e : Expr} {es : List Expr} {g : EF Vl} {t : EF (List D)} {L : LamT} {cl : List (Str × Addr)}
theorem Glo.nomm {H0 H : Hp} {mm : List Addr} {μ : Mu} (g : Glo S H0 H mm μ) {a : Addr} {o : HO} (e : H a = some o) (h1 : ∀ vs, o ≠ .lst vs) (h2 : ∀ C dx fs, o ≠ .ins C dx fs) : a ∉ mm := fun ha => by
  obtain ⟨k, hk, ek⟩ := List.mem_iff_getElem.mp ha
  have mo := g.mu.at_ k a _ (by rw [List.getElem?_eq_getElem hk, ek]) (List.getElem?_eq_getElem (by rw [← g.mu.len]; exact hk))
  cases z : μ[k]'(by rw [← g.mu.len]; exact hk) with
  | lst ds =>
    rw [z] at mo
    obtain ⟨vs, y, _⟩ := mo
    rw [e] at y
    exact h1 _ (Option.some.inj y)
  | ins C fs =>
    rw [z] at mo
    obtain ⟨dx, vs, y, _⟩ := mo
    rw [e] at y
    exact h2 _ _ _ (Option.some.inj y)
theorem Ok.noown {H0 H : Hp} {mm : List Addr} {μ : Mu} {σ : St} {ρ : Env} (ok : Ok S H0 H mm μ σ ρ) {a : Addr} {φ : Heap → Prop} (e : H a = some (.ext φ)) : ¬ Own σ ρ a := fun ⟨i, d, e1, e2⟩ => by
  obtain ⟨b, e3, _, _, q⟩ := ok.e.at_ i _ e1
  rw [e2] at e3
  cases e3
  cases d with
  | lst ds => obtain ⟨vs, y, _⟩ := q; rw [e] at y; cases y
  | dic ks vs => obtain ⟨kvs, y, _⟩ := q; rw [e] at y; cases y
  | obj C fs => obtain ⟨dx, fvs, y, _⟩ := q; rw [e] at y; cases y
  | _ => exact q
/-- the state, more of other things tracked -/
theorem Ok.more {H0 H H1 : Hp} {mm : List Addr} {μ : Mu} {σ : St} {ρ : Env} {f : Addr} {φ : Heap → Prop} (ok : Ok S H0 H mm μ σ ρ) (en : LamX.ExtN H H1) (tb : LamX.Tabs S.T H1) (hf : H f = none) (h1 : H1 f = some (.ext φ)) (gr : ∀ b, H1 b = none → H b = none) :
    Ok S (upd H0 f (.ext φ)) H1 mm μ σ ρ ∧ Nx (Own σ ρ) H0 H mm (upd H0 f (.ext φ)) H1 mm := by
  have hf0 : H0 f = none := by
    cases q : H0 f with
    | none => rfl
    | some u => rw [ok.g.sub _ _ q] at hf; cases hf
  have s0 : Sub H0 (upd H0 f (.ext φ)) := Sub.alloc hf0
  have eqo : ∀ {a : Addr} {o : HO}, H a = some o → (∀ ps, o ≠ .tbl ps) → H1 a = H a := fun {a o} e h => by rw [en _ _ e h, e]
  have eqm : ∀ a ∈ mm, H1 a = H a := fun a ha => by
    obtain ⟨o, e, h⟩ := ok.g.mu.there ha
    exact eqo e h
  have nf : ∀ {a : Addr}, H a ≠ none → a ≠ f := fun {a} h z => by rw [z] at h; exact h hf
  refine ⟨⟨⟨fun a o e => ?_, ⟨ok.g.mu.len, ok.g.mu.nd, fun k a m e1 e2 => (ok.g.mu.at_ k a m e1 e2).mono s0 .refl (eqm a (List.mem_of_getElem? e1)), fun a ha => ?_⟩, tb, fun b ps e => ?_⟩, ok.e.len, fun i s e => ?_, ok.e.sep⟩, ⟨s0, fun a h _ => upd_ne (nf h), fun a o e _ _ h => by rw [eqo e h, e], fun a h z => h (gr a z), [], by simp, by simp⟩⟩
  · by_cases h : a = f
    · rw [h, upd_same] at e
      rw [h, h1]
      exact e
    · rw [upd_ne h] at e
      exact en _ _ (ok.g.sub _ _ e) fun ps z => ok.g.nt a ps (by rw [e, z])
  · obtain ⟨o, e, _⟩ := ok.g.mu.there ha
    rw [upd_ne (nf (by rw [e]; simp))]
    exact ok.g.mu.h0 a ha
  · by_cases h : b = f
    · rw [h, upd_same] at e
      cases e
    · rw [upd_ne h] at e
      exact ok.g.nt b ps e
  · have q := ok.e.at_ i s e
    cases s with
    | un => trivial
    | fz d =>
      obtain ⟨v, ev, q⟩ := q
      exact ⟨v, ev, Dp.mono s0 .refl _ q⟩
    | ow d =>
      obtain ⟨b, ev, n0, nm, q⟩ := q
      obtain ⟨o, eo, nt⟩ := q.there
      exact ⟨b, ev, by rw [upd_ne (nf (by rw [eo]; simp))]; exact n0, nm, q.mono s0 .refl (eqo eo nt)⟩
/-- the lambda as an expression -/
def tLamE (T : Tbl) (L : LamT) (cl : List (Str × Addr)) : TE := fun σ H Q => LamX.Tabs T H ∧ ∀ (f d : Addr) (H1 : Hp), LamX.ExtN H H1 → (∀ b, H1 b = none → H b = none) → LamX.Tabs T H1 → H f = none → H1 f = some (LamO f L cl d) → H1 d = some (LamX.CodeO d L.qual) → Q (.ref f) H1
/-- what the maker of a lambda brings -/
structure MkL (X : Cx) (T : Tbl) (L : LamT) (c P : Addr) : Prop where
  B : LamX.TabB X.base X.mg c P
  hc : X.env.code = .ref c
  hm : (P, L.qual) ∈ T
  hu : ∀ p ∈ T, p.1 = P → p.2 = L.qual
def capB (sc scope : Scope) (fr : List Str) : Bool := (scope.names.all fun y => !decide (y.2 = .free) || decide (y.1 ∈ fr)) && fr.all fun y => decide ((y, NameKind.free) ∈ scope.names) && decide (sc.names.lookup y = some .cell)
theorem pe_lam {T : Tbl} {c P : Addr} (M : MkL X T L c P) (hq : X.env.qual ++ "<lambda>" = L.qual) (hdef : defaultsOf L.params X.env = ([], [])) (hcap : capB X.env.scope L.scope L.fr = true) : PE X (.Lambda L.params L.body L.scope pos) (tLamE T L (cloFrom X.env.cells L.scope.names [])) := by
  refine ⟨fun pins s σ H Q I h => ?_⟩
  obtain ⟨hT, h⟩ := h
  refine lam_new I M.B M.hc hq M.hm M.hu hT hdef (fun y hy e => ?_) fun f d H1 s' J en bk tb f0 f1 d1 => ⟨.ref f, H1, J, rfl, h f d H1 en bk tb f0 f1 d1⟩
  unfold capB at hcap
  simp only [Bool.and_eq_true, List.all_eq_true, Bool.or_eq_true, Bool.not_eq_true', decide_eq_false_iff_not, decide_eq_true_eq] at hcap
  rcases hcap.1 y hy with z | z
  · exact absurd e z
  · exact I.ok.has y.1 (.inl (hcap.2 y.1 z).2)
theorem a_lam {c P : Addr} (M : MkL X S.T L c P) (hq : X.env.qual ++ "<lambda>" = L.qual) (hdef : defaultsOf L.params X.env = ([], [])) (hcap : capB X.env.scope L.scope L.fr = true) (hs : starEach [.Lambda L.params L.body L.scope pos] X.env = (false, eval (.Lambda L.params L.body L.scope pos) X.env) :: starEach [] X.env := by rfl) : PA X [.Lambda L.params L.body L.scope pos] (ral S W L (cloFrom X.env.cells L.scope.names []) aLam) := by
  refine PA.weak (pa_cons (pe_lam M hq hdef hcap) pa_nil hs) fun σ H Q h => ?_
  obtain ⟨H0, mm, ρ, μ, ok, en⟩ := h
  refine ⟨ok.g.tab, fun f d H1 ex bk tb f0 f1 d1 => ?_⟩
  obtain ⟨ok1, nx⟩ := ok.more ex tb f0 f1 bk
  exact en [.ref f] _ H1 mm ok1 nx .refl .refl ⟨[], f, d, rfl, rfl, upd_same, d1, ok1.g.nomm d1 (fun _ z => by cases z) (fun _ _ _ z => by cases z), ok1.noown d1⟩
theorem a_consM {cl : List (Str × Addr)} (ha : PE X e (rd S W g)) (hr : PA X es (ral S W L cl t)) (hs : starEach (e :: es) X.env = (false, eval e X.env) :: starEach es X.env := by rfl) : PA X (e :: es) (ral S W L cl (aCons g t)) := by
  refine PA.weak (pa_cons (e_frz ha) hr hs) fun σ H Q h => ?_
  refine rd_mono (rk_push (k := knV S) stay0 (rk_start h)) fun v H1 h1 => rd_mono (rk_push (k := knM S L cl) (stayV stay0) h1) fun vs H2 h2 => rk_go h2 fun G H0 mm ρ μ a pa ok en => ?_
  obtain ⟨⟨_, x⟩, ds⟩ := a
  obtain ⟨⟨_, vx⟩, vds⟩ := pa
  have vx : VlOk S G H0 H2 mm σ ρ v x := vx
  obtain ⟨vs0, f, d, rfl, dv, la⟩ := vds
  cases x with
  | val d0 => exact en (v :: (vs0 ++ [.ref f])) H0 H2 mm ok .refl .refl .refl ⟨v :: vs0, f, d, rfl, ⟨v, vs0, rfl, vx, dv⟩, la⟩
  | frs d0 => exact en.elim
  | slt i => exact en.elim
end
/-! ### the call -/
/-- what the captured slots hold -/
def envOf (ρ : Env) : List Nat → Option (List D)
  | [] => some []
  | j :: js => match ρ[j]? with
    | some (.fz d) => (envOf ρ js).map (d :: ·)
    | _ => none
def liftM (ρ : Env) : RF → R Vl
  | .ok d μ => match noC (fun _ => true) d && μ.all (noCm fun _ => true) with
    | true => .ok (.val d) ρ μ
    | false => .no
  | _ => .no
def callM (n : Nat) (m : DF) (num : Nat) (js : List Nat) (ds : List D) : EF Vl := fun ρ μ => match envOf ρ js with
  | some env => if ds.length + 1 = n then liftM ρ (m (ds ++ [.clo num env]) μ) else .no
  | none => .no
def gCallM (n : Nat) (m : DF) (num : Nat) (js : List Nat) (t : EF (List D)) : EF Vl := bnd t (callM n m num js)
section
variable {S : Sta} {H0 H : Hp} {mm : List Addr} {μ : Mu} {σ : L2.St} {ρ : Env}
theorem envOf_get : ∀ {js : List Nat} {env : List D}, envOf ρ js = some env → js.length = env.length ∧ ∀ (i j : Nat), js[i]? = some j → ∃ d, ρ[j]? = some (.fz d) ∧ env[i]? = some d
  | [], env, h => by cases h; exact ⟨rfl, fun i j e => by simp at e⟩
  | j :: js, env, h => by
    unfold envOf at h
    split at h
    · rename_i d hd
      obtain ⟨r, e1, rfl⟩ := Option.map_eq_some_iff.mp h
      obtain ⟨h1, h2⟩ := envOf_get e1
      refine ⟨by rw [List.length_cons, List.length_cons, h1], fun i k e => ?_⟩
      cases i with
      | zero => simp at e; subst e; exact ⟨d, hd, by simp⟩
      | succ i =>
        obtain ⟨x, y, z⟩ := h2 i k (by simpa using e)
        exact ⟨x, y, by simpa using z⟩
    · cases h
/-- the values of the captured slots -/
theorem env_vals (ok : Ok S H0 H mm μ σ ρ) : ∀ {js : List Nat} {env : List D}, envOf ρ js = some env → ∃ ws : List V, Dps S H0 mm ws env ∧ ws.length = js.length ∧ ∀ (i j : Nat), js[i]? = some j → ∃ v, ws[i]? = some v ∧ σ[j]? = some (some v)
  | [], env, h => by cases h; exact ⟨[], rfl, rfl, fun i j e => by simp at e⟩
  | j :: js, env, h => by
    unfold envOf at h
    split at h
    · rename_i d hd
      obtain ⟨r, e1, rfl⟩ := Option.map_eq_some_iff.mp h
      obtain ⟨ws, h1, h2, h3⟩ := env_vals ok e1
      obtain ⟨v, ev, dv⟩ := ok.e.at_ j _ hd
      refine ⟨v :: ws, ⟨v, ws, rfl, dv, h1⟩, by rw [List.length_cons, List.length_cons, h2], fun i k e => ?_⟩
      cases i with
      | zero => simp at e; subst e; exact ⟨v, by simp, ev⟩
      | succ i =>
        obtain ⟨x, y, z⟩ := h3 i k (by simpa using e)
        exact ⟨x, by simpa using y, z⟩
    · cases h
end
end DL
set_option maxRecDepth 100000
set_option maxHeartbeats 1000000
/-! Calls whose last argument is a lambda; calls of what a slot holds. -/
namespace DL
open PySem PySem.Spec L2 NdefX
open PyProof.Rows (envOfC)
section
variable {P : Program} {w : World} {H H' Z : Hp} {s s' : Shared} {cs : Addr → Bool} {n : Nat} {outer : List PySem.Env} {Q : VK} {E : XK} {u : Value}
theorem CE.unpin (hn : ∀ a, cs a = true → H a = none) (hz : ∀ a, cs a = true → ∃ o, Z a = some (CelO o n) ∧ s.heap.get? a = some o) (c : CE outer P w (pinH cs Z H) s (fun v H' => (∀ a, cs a = true → H' a = Z a) → Q v (hide cs H')) u s') : CE outer P w H s Q u s' := by
  obtain ⟨v, H', os, ba, un, hok, r, q⟩ := c
  have hp : ∀ a, cs a = true → H' a = Z a := fun a ha => by
    obtain ⟨o, e, _⟩ := hz a ha
    rw [un.frzs a o _ (by rw [pinH_in ha]; exact e), e]
  have hg : ∀ a, cs a = true → ∃ o, s.heap.get? a = some o ∧ s'.heap.get? a = some o := fun a ha => by
    obtain ⟨o, e, g⟩ := hz a ha
    have z : H' a = some (CelO o n) := by rw [hp a ha]; exact e
    exact ⟨o, g, (show ObjOk P w H' s'.heap a (CelO o n) from hok a _ z).1⟩
  have out : ∀ {b : Addr} {o : HO}, H b = some o → cs b = false := fun {b o} e => by
    cases q : cs b with
    | false => rfl
    | true => rw [hn b q] at e; cases e
  refine ⟨v, _, os, ba, ⟨fun b o g e nb nx => ?_, fun b o g e hb nx => ?_, fun b o g e nx => ?_, fun b o g nx => un.there b o g nx, fun b xs e => ?_, fun b o v e => ?_, fun b ps e => ?_⟩, DL.HOk.hide (n := n) hok fun a ha => .inr ?_, r, q hp⟩
  · cases q : cs b with
    | true =>
      obtain ⟨o', g1, g2⟩ := hg b q
      rw [g] at g1
      cases g1
      exact g2
    | false => exact un.keep b o g (by rw [pinH_out q]; exact e) nb nx
  · cases q : cs b with
    | true =>
      obtain ⟨o', g1, g2⟩ := hg b q
      rw [g] at g1
      cases g1
      exact ⟨o.slots, g2⟩
    | false => exact un.slot b o g (by rw [pinH_out q]; exact e) hb nx
  · cases q : cs b with
    | true => exact hide_in q
    | false => rw [hide_out q]; exact un.free b o g (by rw [pinH_out q]; exact e) nx
  · rw [hide_out (out e)]
    exact un.tups b xs (by rw [pinH_out (out e)]; exact e)
  · rw [hide_out (out e)]
    exact un.frzs b o v (by rw [pinH_out (out e)]; exact e)
  · rw [hide_out (out e)]
    exact un.tbls b ps (by rw [pinH_out (out e)]; exact e)
  · obtain ⟨o, e, _⟩ := hz a ha
    exact ⟨o, by rw [hp a ha]; exact e⟩
end
section
variable {S : Sta} {W : WX} {X : Cx} {x : Str} {p pos : Pos} {e : Expr} {es : List Expr} {k j n num : Nat} {m : DF} {t : EF (List D)} {L : LamT} {js : List Nat}
/-- H0 where the lambda's things stand too -/
def lamH0 (cs : Addr → Bool) (Z H1 H0 : Hp) (c : Addr) : Hp := fun a => if cs a = true then Z a else if a = c then H1 a else H0 a
/-- .. and where they don't any more -/
def lamB0 (cs : Addr → Bool) (H0 H0' : Hp) (c : Addr) : Hp := fun a => if cs a = true ∨ a = c then H0 a else H0' a
/-- f(e, .., lambda ..: ..) -/
theorem e_callM (C : Cal X.prog X.w S X.mg X.base k x n m) (hK : X.K = S.K) (hr : Room j X.A) (hk : k ≤ j) (hg : Gl X x) (hL : S.L num = some L) (ha : PA X (e :: es) (ral S W L (cloFrom X.env.cells L.scope.names []) t)) (hcap : capB X.env.scope L.scope L.fr = true)
    (hjs : js.map (fun j => X.N[j]?) = L.fr.map some) (hfn : ∀ y, X.fn y = true) (hdb : (x == ("__debug__" : Str)) = false := by decide) (he : starEach (e :: es) X.env = (false, eval e X.env) :: starEach es X.env := by rfl) (hpl : (backTo pos (starEach es X.env)).any (·.1) = false := by rfl) :
    PE X (.Call (.Name x p) (e :: es) [] pos) (rd S W (gCallM n m num js t)) := by
  obtain ⟨f0, fd, ps, F, hm, kp, b, _⟩ := C.ex
  rw [← hK] at F kp b
  unfold capB at hcap
  simp only [Bool.and_eq_true, List.all_eq_true, Bool.or_eq_true, Bool.not_eq_true', decide_eq_false_iff_not, decide_eq_true_eq] at hcap
  obtain ⟨cap1, cap2⟩ := hcap
  refine ⟨fun pins s σ H Q I h => ?_⟩
  refine wpAny_Call_Name_kw (ld_glob I hg hm ?_ hdb)
  refine PySem.W.callWith_K (h₀ := X.base) I.ok.mod.kin kp (thn (ha.run pos pins s σ H _ I (rk_push (k := knM S L (cloFrom X.env.cells L.scope.names [])) stay0 (rk_start h))) fun us s1 ⟨vs, H1, I1, r, q⟩ => ⟨I1.kIn, ?_⟩) he hpl
  obtain ⟨H0p, Hp', mmp, ρp, H0, mm, ρ, μ, ⟨_, ds⟩, ok, nx, ow, ho, ⟨_, vs0, f, c, ev, dv, la⟩, en⟩ := q
  replace en : EndV S W H0p Hp' mmp σ ρp Q (callM n m num js ds ρ μ) := en
  unfold callM at en
  cases hen : envOf ρ js with
  | none => rw [hen] at en; exact en.elim
  | some env =>
    rw [hen] at en
    replace en : EndV S W H0p Hp' mmp σ ρp Q (if ds.length + 1 = n then liftM ρ (m (ds ++ [.clo num env]) μ) else .no) := en
    by_cases hln : ds.length + 1 = n
    · rw [if_pos hln] at en
      obtain ⟨cl, hcl⟩ : ∃ cl, cl = cloFrom X.env.cells L.scope.names [] := ⟨_, rfl⟩
      rw [← hcl] at la
      obtain ⟨cs, hcs⟩ : ∃ cs, cs = clB L.fr cl := ⟨_, rfl⟩
      have hfree : ∀ y ∈ L.scope.names, y.2 = .free → ∃ c, X.env.cells.lookup y.1 = some c := fun y hy ef => by
        rcases cap1 y hy with z | z
        · exact absurd ef z
        · exact I1.ok.has y.1 (.inl (cap2 y.1 z).2)
      have clx : ∀ {y : Str} {a : Addr}, cl.lookup y = some a → X.env.cells.lookup y = some a := fun {y a} z => by
        rw [hcl] at z
        exact clo_cm hfree z
      have clfr : ∀ {y : Str} {a : Addr}, cl.lookup y = some a → y ∈ L.fr := fun {y a} z => by
        rw [hcl] at z
        rcases cloFrom_mem (PySem.mem_of_lookup z) with z | ⟨z, _⟩
        · cases z
        · rcases cap1 _ z with w | w
          · exact absurd rfl w
          · exact w
      have clat : ∀ {y : Str}, y ∈ L.fr → ∃ a, X.env.cells.lookup y = some a ∧ cl.lookup y = some a := fun {y} hy => by
        obtain ⟨a, ea⟩ := I1.ok.has y (.inl (cap2 y hy).2)
        exact ⟨a, ea, by rw [hcl]; exact clo_has hfree (cap2 y hy).1 ea⟩
      have csx : ∀ {a : Addr}, cs a = true → ∃ y ∈ L.fr, X.env.cells.lookup y = some a := fun {a} h => by
        rw [hcs] at h
        obtain ⟨y, hy, e⟩ := clB_of h
        exact ⟨y, hy, clx e⟩
      have hn : ∀ a, cs a = true → H1 a = none := fun a h => by
        obtain ⟨y, _, e⟩ := csx h
        exact I1.freeC y a e
      have hn0 : ∀ a, cs a = true → H0 a = none := fun a h => by
        cases q : H0 a with
        | none => rfl
        | some o => have z := ok.g.sub _ _ q; rw [hn a h] at z; cases z
      obtain ⟨Z, hZ⟩ : ∃ Z : Hp, Z = fun a => (s1.heap.get? a).map fun o => CelO o num := ⟨_, rfl⟩
      have hz : ∀ a, cs a = true → ∃ o, Z a = some (CelO o num) ∧ s1.heap.get? a = some o := fun a h => by
        obtain ⟨y, _, e⟩ := csx h
        obtain ⟨v, o, ho, _⟩ := I1.cell y a e
        exact ⟨o, by rw [hZ]; show (s1.heap.get? a).map _ = _; rw [ho]; rfl, ho⟩
      have sz : ∀ a, cs a = true → X.s_0.heap.objs.size ≤ a := fun a h => by
        obtain ⟨y, _, e⟩ := csx h
        exact I1.ok.cab y a (hfn y) e
      have nbase : ∀ {a : Addr} {o : Obj}, X.base.get? a = some o → cs a = false := fun {a o} e => by
        cases q : cs a with
        | false => rfl
        | true =>
          have z := (I1.ok.bs a o e).1
          exact absurd (Heap.lt_size z) (Nat.not_lt.mpr (sz a q))
      have nfr : ∀ a ∈ frs X.stack, cs a = false := fun a h => by
        cases q : cs a with
        | false => rfl
        | true =>
          obtain ⟨y, _, e⟩ := csx q
          rcases List.mem_cons.mp (I1.stkSub a h) with z | z
          · exact absurd z (I1.cne y a e)
          · obtain ⟨_, o, ho, _⟩ := I1.ok.funs.mem z
            exact absurd (Heap.lt_size ho) (Nat.not_lt.mpr (sz a q))
      have e0 := I1.env0
      have e1 : Env0 X.prog X.w X.K X.mg X.base X.A X.stack s1 (pinH cs Z H1) :=
        ⟨e0.frames, e0.mod, fun b o z => ⟨(e0.bs b o z).1, by rw [pinH_out (nbase z)]; exact (e0.bs b o z).2⟩, e0.bsz, e0.funs, fun b hb => by rw [pinH_out (nfr b hb)]; exact e0.frf b hb, DL.HOk.pin (n := num) e0.hok hn hz, e0.bare⟩
      obtain ⟨ws, wv, wl, wat⟩ := env_vals ok hen
      -- the world with the lambda
      have cN : cs c = false := by
        cases q : cs c with
        | false => rfl
        | true => have z := la.code; rw [hn c q] at z; cases z
      have fN : cs f = false := by
        cases q : cs f with
        | false => rfl
        | true => have z := la.f0; rw [hn0 f q] at z; cases z
      obtain ⟨K0, hK0⟩ : ∃ K0, K0 = lamH0 cs Z H1 H0 c := ⟨_, rfl⟩
      have k0c : ∀ {a}, cs a = true → K0 a = Z a := fun {a} h => by rw [hK0]; exact if_pos h
      have k0d : K0 c = H1 c := by
        rw [hK0]
        show (if cs c = true then Z c else if c = c then H1 c else H0 c) = H1 c
        rw [if_neg (by rw [cN]; simp), if_pos rfl]
      have k0o : ∀ {a}, cs a = false → a ≠ c → K0 a = H0 a := fun {a} h h2 => by
        rw [hK0]
        show (if cs a = true then Z a else if a = c then H1 a else H0 a) = H0 a
        rw [if_neg (by rw [h]; simp), if_neg h2]
      have sb : Sub H0 K0 := fun a o e => by
        by_cases h : a = c
        · rw [h, k0d]
          rw [h] at e
          exact ok.g.sub _ _ e
        · rw [k0o _ h]
          · exact e
          · cases q : cs a with
            | false => rfl
            | true => rw [hn0 a q] at e; cases e
      have sb1 : Sub H1 (pinH cs Z H1) := fun a o e => by
        rw [pinH_out]
        · exact e
        · cases q : cs a with
          | false => rfl
          | true => rw [hn a q] at e; cases e
      have mmN : ∀ a ∈ mm, cs a = false ∧ a ≠ c := fun a ha => by
        obtain ⟨o, e, _⟩ := ok.g.mu.there ha
        refine ⟨?_, fun z => la.cm (by rw [← z]; exact ha)⟩
        cases q : cs a with
        | false => rfl
        | true => rw [hn a q] at e; cases e
      have g1 : Glo S K0 (pinH cs Z H1) mm μ := by
        refine ⟨fun a o e => ?_, ⟨ok.g.mu.len, ok.g.mu.nd, fun k a mo e1 e2 => (ok.g.mu.at_ k a mo e1 e2).mono sb .refl (pinH_out (mmN a (List.mem_of_getElem? e1)).1), fun a ha => ?_⟩, ok.g.tab.ext sb1, fun a ps e => ?_⟩
        · cases q : cs a with
          | true => rw [k0c q] at e; rw [pinH_in q]; exact e
          | false =>
            rw [pinH_out q]
            by_cases h : a = c
            · rw [h, k0d] at e
              rw [h]
              exact e
            · rw [k0o q h] at e
              exact ok.g.sub _ _ e
        · rw [k0o (mmN a ha).1 (mmN a ha).2]
          exact ok.g.mu.h0 a ha
        · cases q : cs a with
          | true =>
            rw [k0c q] at e
            obtain ⟨o, z, _⟩ := hz a q
            rw [e] at z
            cases z
          | false =>
            by_cases h : a = c
            · rw [h, k0d, la.code] at e
              exact LamX.codeO_ne ps (Option.some.inj e)
            · rw [k0o q h] at e
              exact ok.g.nt a ps e
      have lc : lamC S.L num f ws K0 := by
        refine ⟨L, cl, c, hL, sb _ _ la.f0, by rw [k0d]; exact la.code, ?_, fun y a z => clfr z, fun x y a z1 z2 => I1.ok.inj x y a (clx z1) (clx z2), fun i y ey => ?_⟩
        · have z := congrArg List.length hjs
          rw [List.length_map, List.length_map] at z
          rw [wl, z]
        · have hy := List.mem_of_getElem? ey
          obtain ⟨a, a1, a2⟩ := clat hy
          have ej : (js.map fun j => X.N[j]?)[i]? = some (some y) := by rw [hjs, List.getElem?_map, ey]; rfl
          rw [List.getElem?_map] at ej
          cases ej2 : js[i]? with
          | none => rw [ej2] at ej; cases ej
          | some jj =>
            rw [ej2] at ej
            have hjN : X.N[jj]? = some y := Option.some.inj ej
            obtain ⟨v, v1, v2⟩ := wat i jj ej2
            obtain ⟨mm', _, hl⟩ := I1.loc
            obtain ⟨u, ru, lk⟩ := hl jj y v hjN v2 (.inr (.inl (cap2 y hy).2))
            rcases lk with ⟨z, _⟩ | ⟨_, a', za, o, zo, zd⟩
            · have z : X.env.scope.names.lookup y = some .local := z
              rw [(cap2 y hy).2] at z
              cases z
            · rw [a1] at za
              cases za
              have ca : cs a = true := by rw [hcs]; exact clB_look hy a2
              obtain ⟨o2, z1, z2⟩ := hz a ca
              rw [zo] at z2
              cases z2
              exact ⟨a, o, u, v, a2, by rw [k0c ca]; exact z1, zd, v1, ru⟩
      have dclo : Dp S K0 mm (.ref f) (.clo num env) := ⟨f, ws, rfl, lc, Dps.mono sb .refl _ wv⟩
      have dvs : Dps S K0 mm vs (ds ++ [.clo num env]) := by
        rw [ev]
        exact Dps.append (Dps.mono sb .refl _ dv) ⟨_, _, rfl, dclo, rfl⟩
      cases hm2 : m (ds ++ [.clo num env]) μ with
      | no => rw [hm2] at en; exact en.elim
      | exc x μ' => rw [hm2] at en; exact en.elim
      | ok d μ' =>
        rw [hm2] at en
        replace en : EndV S W H0p Hp' mmp σ ρp Q (match noC (fun _ => true) d && μ'.all (noCm fun _ => true) with
          | true => .ok (.val d) ρ μ'
          | false => .no) := en
        cases hno : (noC (fun _ => true) d && μ'.all (noCm fun _ => true)) with
        | false => rw [hno] at en; exact en.elim
        | true =>
          rw [hno] at en
          have sp0 : ∀ (Q2 : VK) (E2 : XK), (∀ v H0' H' mm', Glo S H0' H' mm' μ' → Nx (fun _ => False) K0 (pinH cs Z H1) mm H0' H' mm' → Dp S H0' mm' v d → Q2 v H') → spF S n m vs (pinH cs Z H1) Q2 E2 := fun Q2 E2 h => ⟨K0, mm, _, μ, g1, dvs, by rw [List.length_append]; exact hln, by rw [hm2]; exact h⟩
          have hl2 : us.length = ps.length := by rw [← r.length]; exact F.len vs (pinH cs Z H1) (fun _ _ => True) (fun _ _ _ => True) (sp0 _ _ fun _ _ _ _ _ _ _ => trivial)
          have fin : ∀ v H0' H' mm', Glo S H0' H' mm' μ' → Nx (fun _ => False) K0 (pinH cs Z H1) mm H0' H' mm' → Dp S H0' mm' v d → (∀ a, cs a = true → H' a = Z a) → Q v (hide cs H') := by
            intro v H0' H' mm' g2 n2 dp hpz
            obtain ⟨B0, hB0⟩ : ∃ B0, B0 = lamB0 cs H0 H0' c := ⟨_, rfl⟩
            have b0i : ∀ {a}, cs a = true ∨ a = c → B0 a = H0 a := fun {a} h => by rw [hB0]; exact if_pos h
            have b0o : ∀ {a}, cs a = false → a ≠ c → B0 a = H0' a := fun {a} h h2 => by
              rw [hB0]
              exact if_neg fun z => z.elim (fun z => by rw [h] at z; cases z) h2
            have codeK : K0 c = some (LamX.CodeO c L.qual) := by rw [k0d]; exact la.code
            have code' : H0' c = some (LamX.CodeO c L.qual) := n2.old0 _ _ codeK
            have celH : ∀ a, cs a = true → ∃ o, H' a = some (CelO o num) := fun a h => by
              obtain ⟨o, z, _⟩ := hz a h
              exact ⟨o, by rw [hpz a h]; exact z⟩
            have hid : Hid (fun _ => true) H0' B0 := fun a o e => by
              cases q : cs a with
              | true =>
                obtain ⟨o2, z, _⟩ := hz a q
                have z2 := n2.old0 _ _ ((k0c q).trans z)
                rw [e] at z2
                cases z2
                exact .inr (.inl ⟨_, _, rfl, rfl⟩)
              | false =>
                by_cases h : a = c
                · rw [h, code'] at e
                  cases e
                  exact .inr (.inr ⟨⟨_, rfl⟩, fun _ => rfl⟩)
                · rw [b0o q h]
                  exact .inl e
            have mmN' : ∀ a ∈ mm', cs a = false ∧ a ≠ c := fun a ha => by
              refine ⟨?_, fun z => ?_⟩
              · cases q : cs a with
                | false => rfl
                | true =>
                  obtain ⟨o, z⟩ := celH a q
                  exact absurd ha (g2.nomm z (fun _ z => by cases z) fun _ _ _ z => by cases z)
              · exact g2.nomm (g2.sub _ _ code') (fun _ z => by cases z) (fun _ _ _ z => by cases z) (by rw [← z]; exact ha)
            have kpH : ∀ {b : Addr} {u : HO}, H' b = some u → (∀ o, u ≠ CelO o num) → hide cs H' b = some u := fun {b u} eb hu => by
              rw [hide_out]
              · exact eb
              · cases z : cs b with
                | false => rfl
                | true =>
                  obtain ⟨o, y⟩ := celH b z
                  rw [eb] at y
                  cases y
                  exact absurd rfl (hu o)
            have gB : Glo S B0 (hide cs H') mm' μ' := by
              refine ⟨fun a o e => ?_, g2.mu.hid hid (and_r hno) (fun a ha => hide_out (mmN' a ha).1) (fun a ha => by rw [b0o (mmN' a ha).1 (mmN' a ha).2]; exact g2.mu.h0 a ha), tabs_hide g2.tab (fun b ps e => kpH e fun _ y => by cases y) (fun b φ e => kpH e fun _ y => by cases y), fun a ps e => ?_⟩
              · cases q : cs a with
                | true => rw [b0i (.inl q), hn0 a q] at e; cases e
                | false =>
                  by_cases h : a = c
                  · rw [b0i (.inr h)] at e
                    have z := ok.g.sub _ _ e
                    rw [h, la.code] at z
                    rw [h]
                    cases z
                    exact kpH (g2.sub _ _ code') fun _ y => by cases y
                  · rw [b0o q h] at e
                    rw [hide_out q]
                    exact g2.sub _ _ e
              · cases q : cs a with
                | true => rw [b0i (.inl q)] at e; exact ok.g.nt a ps e
                | false =>
                  by_cases h : a = c
                  · rw [b0i (.inr h)] at e; exact ok.g.nt a ps e
                  · rw [b0o q h] at e; exact g2.nt a ps e
            have nB : Nx (Own σ ρ) H0 H1 mm B0 (hide cs H') mm' := by
              have ne : ∀ {a}, H1 a ≠ none → cs a = false := fun {a} h => by
                cases q : cs a with
                | false => rfl
                | true => exact absurd (hn a q) h
              refine ⟨fun a o e => ?_, fun a h _ => ?_, fun a o e hm _ t => ?_, fun a h => ?_, ?_⟩
              · by_cases h : cs a = true ∨ a = c
                · rw [b0i h]; exact e
                · have q : cs a = false := by
                    cases q : cs a with
                    | false => rfl
                    | true => exact absurd (.inl q) h
                  have h2 : a ≠ c := fun z => h (.inr z)
                  rw [b0o q h2]
                  exact n2.old0 _ _ (sb _ _ e)
              · have q := ne h
                by_cases h2 : a = c
                · exact b0i (.inr h2)
                · rw [b0o q h2, n2.new0 a (by rw [pinH_out q]; exact h) (fun z => z), k0o q h2]
              · have q : cs a = false := ne (by rw [e]; simp)
                rw [hide_out q]
                exact n2.keep a o (by rw [pinH_out q]; exact e) hm (fun z => z) t
              · rw [hide_out (ne h)]
                exact n2.grow a (by rw [pinH_out (ne h)]; exact h)
              · obtain ⟨more, e1, e2⟩ := n2.mmx
                refine ⟨more, e1, fun a ha => ?_⟩
                cases q : cs a with
                | true => exact hn a q
                | false =>
                  have z := e2 a ha
                  rw [pinH_out q] at z
                  exact z
            have okB : Ok S B0 (hide cs H') mm' μ' σ ρ := by
              refine ⟨gB, ok.e.len, fun i sl es => ?_, ok.e.sep⟩
              have q := ok.e.at_ i sl es
              cases sl with
              | un => trivial
              | fz d =>
                obtain ⟨v, ev, q⟩ := q
                exact ⟨v, ev, Dp.nx nB q⟩
              | ow d =>
                obtain ⟨b, ev, n0, nm, q⟩ := q
                obtain ⟨o, eo, nt⟩ := q.there
                have hnb : H1 b ≠ none := by rw [eo]; simp
                have qb : cs b = false := by
                  cases q : cs b with
                  | false => rfl
                  | true => exact absurd (hn b q) hnb
                have bc : b ≠ c := fun z => by
                  rw [z] at q
                  cases d with
                  | lst ds => obtain ⟨vs, y, _⟩ := q; rw [la.code] at y; cases y
                  | dic ks vs => obtain ⟨kvs, y, _⟩ := q; rw [la.code] at y; cases y
                  | obj C fs => obtain ⟨dx, fvs, y, _⟩ := q; rw [la.code] at y; cases y
                  | _ => exact q
                refine ⟨b, ev, ?_, fun z => ?_, q.mono nB.old0 nB.pre ?_⟩
                · rw [b0o qb bc, n2.new0 b (by rw [pinH_out qb]; exact hnb) (fun z => z), k0o qb bc]
                  exact n0
                · obtain ⟨more, e1, e2⟩ := nB.mmx
                  rw [e1] at z
                  rcases List.mem_append.mp z with z | z
                  · exact nm z
                  · exact hnb (e2 b z)
                · rw [hide_out qb, n2.keep b o (by rw [pinH_out qb]; exact eo) nm (fun z => z) nt, eo]
            exact en v B0 _ mm' okB (nx.trans ow nB) ow ho (Dp.hid hid d (and_l hno) dp)
          have bt := b s1 us I1.kIn (by rw [List.append_nil]; exact hl2)
          rw [List.append_nil] at bt
          refine wpAny_call (codeAny_mono (F.run X.A X.stack s1 (pinH cs Z H1) ⟨us, []⟩ us vs (fun v H' => (∀ a, cs a = true → H' a = Z a) → Q v (hide cs H')) (fun _ _ _ => False) (hr.mono hk) e1 bt r (sp0 _ _ fin)) fun rr s' hq => ?_)
          cases rr with
          | error e =>
            obtain ⟨_, _, _, _, _, _, _, _, _, _, _, _, z⟩ := hq
            exact z.elim
          | ok fl =>
            cases fl with
            | ret u => exact I1.after (CE.unpin hn hz hq)
            | next => exact False.elim hq
            | brk => exact False.elim hq
            | cont => exact False.elim hq
    · rw [if_neg hln] at en
      exact en.elim
end
end DL
set_option maxRecDepth 100000
set_option maxHeartbeats 1000000
/-! Calls of what a slot holds. -/
namespace DL
open PySem PySem.Spec L2 NdefX
open PyProof.Rows (envOfC)
/-- a value that may be called: its run, its object -/
structure CalR (P : Program) (w : World) (S : Sta) (mg : Str → Option Value) (base : Heap) (k n : Nat) (m : DF) (f : Addr) (H0 : Hp) (mm : List Addr) : Prop where
  run : Runs P w S mg base k n m f H0 mm
  at_ : ∀ (A : Around) (outer : List PySem.Env) (s : Shared) (H : Hp), Env0 P w S.K mg base A outer s H → Sub H0 H → PySem.W.FnAt f s.heap
/-- what data stand for that may be called -/
def DispOk (P : Program) (w : World) (S : Sta) (mg : Str → Option Value) (base : Heap) (k n : Nat) (disp : D → Option DF) : Prop :=
  ∀ (d : D) (m : DF) (v : V) (H0 : Hp) (mm : List Addr), disp d = some m → Dp S H0 mm v d → ∃ f, v = .ref f ∧ CalR P w S mg base k n m f H0 mm
def slotF (ρ : Env) (i : Nat) : Option D := match ρ[i]? with
  | some (.fz d) => some d
  | _ => none
def gCallS (i n : Nat) (disp : D → Option DF) (t : EF (List D)) : EF Vl := fun ρ μ => match (slotF ρ i).bind disp with
  | some m => bnd t (callV n m) ρ μ
  | none => .no
section
variable {P : Program} {w : World} {S : Sta} {mg : Str → Option Value} {base : Heap}
theorem lam_callr {N ps : List Str} {L : LamT} {num k : Nat} {g : EF Vl} (hL : S.L num = some L) (Sc : NScope N ps L.fr L.scope) (hb : ∀ (cl : List (Str × Addr)) (pm cdv ctv : Value) (us : List Value), us.length = ps.length → bindArgs (PySem.W.kla_fn "<lambda>" L.qual L.params L.body L.scope cl pm cdv ctv) ⟨us, []⟩ = pure (ps.zip us))
    (hbody : ∀ (f : Addr) (cl : List (Str × Addr)) (c : Addr) (A : Around) (outer : List PySem.Env) (s : Shared) (H : Hp) (E : XK), Room k (A.deeper (envF (lamNF L cl c) f s.heap.objs.size)) → Takes (ncx (L2.CX P w) P w S.K mg base N (lamNF L cl c) f A outer s H E) (WE E) →
      PE (ncx (L2.CX P w) P w S.K mg base N (lamNF L cl c) f A outer s H E) L.body (rd S (WE E) g))
    {v : V} {env : List D} {H0 : Hp} {mm : List Addr} (h : Dp S H0 mm v (.clo num env)) : ∃ f, v = .ref f ∧ CalR P w S mg base (k + 1) ps.length (lamF num N.length g env) f H0 mm := by
  obtain ⟨f, ws, e, hC, hE⟩ := h
  refine ⟨f, e, lam_runs hL Sc hb hbody hC hE, fun A outer s H e0 sb => ?_⟩
  obtain ⟨L', cl, c, hL', hf, _⟩ := hC
  obtain ⟨⟨od, sl, pm, ctv, ho⟩, _, _⟩ := e0.hok f _ (sb _ _ hf)
  exact ⟨_, od, _, sl, ho⟩
theorem glo_callr {k n : Nat} {m : DF} {x : Str} (C : Cal P w S mg base k x n m) (hx : mg x = some (.ref (He.ga S.K x))) {v : V} {H0 : Hp} {mm : List Addr} (h : Dp S H0 mm v (.glo x)) : ∃ f, v = .ref f ∧ CalR P w S mg base k n m f H0 mm := by
  obtain ⟨f, fd, ps, F, hm, kp, b, oc, od, sl, lk⟩ := C.ex
  rw [hx] at hm
  cases hm
  refine ⟨He.ga S.K x, h, fun A outer s H us vs ds μ Q E hr e0 r gl dv hl en => ?_, fun A outer s H e0 sb => ?_⟩
  · have KX : S.K.In s.heap := e0.mod.kin.keeps fun b o e => (e0.bs b o e).1
    have sp0 : spF S n m vs H Q E := ⟨H0, mm, ds, μ, gl, dv, hl, en⟩
    have hl2 : (us ++ []).length = ps.length := by rw [List.append_nil, ← r.length]; exact F.len _ _ _ _ sp0
    have bt := b s us KX hl2
    rw [List.append_nil] at bt
    exact F.run A outer s H ⟨us, []⟩ us vs Q E hr e0 bt r sp0
  · have KX : S.K.In s.heap := e0.mod.kin.keeps fun b o e => (e0.bs b o e).1
    exact ⟨_, _, _, _, KX _ _ lk⟩
end
section
variable {S : Sta} {W : WX} {X : Cx} {x : Str} {p pos : Pos} {e : Expr} {es : List Expr} {i k j n : Nat} {t : EF (List D)} {disp : D → Option DF}
theorem e_callS (hD : DispOk X.prog X.w S X.mg X.base k n disp) (hK : X.K = S.K) (hr : Room j X.A) (hk : k ≤ j) (tk : Takes X W) (hw : ∀ cls od σ σ' H, W cls od σ H → W cls od σ' H) (hN : X.N[i]? = some x) (hv : Vis X.env.scope x) (ha : PA X (e :: es) (ra S W t))
    (hdb : (x == ("__debug__" : Str)) = false := by decide) (hcd : (x == ("__classdict__" : Str)) = false := by decide) (he : starEach (e :: es) X.env = (false, eval e X.env) :: starEach es X.env := by rfl) (hpl : (backTo pos (starEach es X.env)).any (·.1) = false := by rfl) :
    PE X (.Call (.Name x p) (e :: es) [] pos) (rd S W (gCallS i n disp t)) := by
  refine ⟨fun pins s σ H Q I h => ?_⟩
  obtain ⟨H0, mm, ρ, μ, ok, en⟩ := h
  unfold gCallS at en
  cases hsl : slotF ρ i with
  | none => rw [hsl] at en; exact en.elim
  | some d =>
    rw [hsl] at en
    cases hdm : disp d with
    | none => rw [show (some d).bind disp = none from hdm] at en; exact en.elim
    | some m =>
      rw [show (some d).bind disp = some m from hdm] at en
      have hρ : ρ[i]? = some (.fz d) := by
        unfold slotF at hsl
        split at hsl
        · rename_i d' hd; cases hsl; exact hd
        · cases hsl
      obtain ⟨v, hs, dvv⟩ := ok.e.at_ i _ hρ
      obtain ⟨f, ev, cr⟩ := hD d m v H0 mm hdm dvv
      subst ev
      refine wpAny_Call_Name_kw (thn ((pe_var (pos := p) hN hv hdb hcd).run pins s σ H (fun v H1 => v = .ref f ∧ H1 = H) I ⟨.ref f, hs, rfl, rfl⟩) fun u s1 ⟨v, H1, I1, r1, q1⟩ => ?_)
      obtain ⟨rfl, rfl⟩ := q1
      obtain rfl : u = Value.ref f := r1
      refine PySem.W.callWith_F (first := []) (cr.at_ X.A X.stack s1 _ (by rw [← hK]; exact I1.env0) ok.g.sub) (thn (ha.run pos pins s1 σ _ _ I1 (rk_push (k := knA S) (f := fun _ => callV n m) (PA := fun _ H0 _ mm _ (_ : Unit) => Dp S H0 mm (.ref f) d) (fun _ _ _ _ _ _ _ _ _ _ n _ _ q => q.nx n) ⟨H0, H1, mm, ρ, H0, mm, ρ, μ, (), ok, .refl, .refl, .refl, dvv, en⟩)) fun us s2 ⟨vs, H2, I2, r, q⟩ => ?_) he hpl
      obtain ⟨H0p, Hp, mmp, ρp, H02, mm2, ρ2, μ2, ⟨_, ds⟩, ok2, nx, ow, ho, ⟨dvv2, dv⟩, en2⟩ := q
      have dv : Dps S H02 mm2 vs ds := dv
      obtain ⟨f2, ev2, cr2⟩ := hD d m (.ref f) H02 mm2 hdm dvv2
      cases ev2
      refine ⟨cr2.at_ X.A X.stack s2 _ (by rw [← hK]; exact I2.env0) ok2.g.sub, ?_⟩
      obtain ⟨hl3, en3⟩ := call_fin' ok2 nx ow ho en2
      show wpAny _ _ (call (.ref f) us) _ _ _
      refine wpAny_call (codeAny_mono (cr2.run X.A X.stack s2 H2 us vs ds μ2 Q (fun cls od H => ∀ σ, W cls od σ H) (hr.mono hk) (by rw [← hK]; exact I2.env0) r ok2.g dv hl3 ?_) fun rr s' hq => ?_)
      · revert en3
        cases m ds μ2 with
        | no => exact id
        | ok d μ' => exact id
        | exc x μ' => exact fun en' cls od H0' H' mm' g n xr σ' => hw cls od σ σ' H' (en' cls od H0' H' mm' g n xr)
      · cases rr with
        | error e => exact passes_call tk (fun cls d σ H h => h σ) pins σ H2 s2 e s' I2 hq
        | ok fl =>
          cases fl with
          | ret u => exact I2.after hq
          | next => exact False.elim hq
          | brk => exact False.elim hq
          | cont => exact False.elim hq
end
end DL
set_option maxRecDepth 100000
set_option maxHeartbeats 1000000
/-! in, <, +, *, slices of data. -/
namespace DL
open PySem PySem.Spec L2 NdefX

/-! ### flat data -/
def flatD : D → Bool
  | .non => true
  | .bl _ => true
  | .int _ => true
  | .str _ => true
  | _ => false
def toV : D → V
  | .bl b => .bl b
  | .int i => .int i
  | .str x => .str x
  | _ => .non
section
variable {S : Sta} {H0 H : Hp} {mm : List Addr} {v : V}
theorem flat_rdd : ∀ {d : D}, flatD d = true → Rdd S H0 H mm v d → v = toV d ∧ flatV v = true
  | .non, _, h => by obtain rfl : v = .non := h; exact ⟨rfl, rfl⟩
  | .bl _, _, h => by obtain rfl : v = .bl _ := h; exact ⟨rfl, rfl⟩
  | .int _, _, h => by obtain rfl : v = .int _ := h; exact ⟨rfl, rfl⟩
  | .str _, _, h => by obtain rfl : v = .str _ := h; exact ⟨rfl, rfl⟩
theorem flat_dp : ∀ {d : D}, flatD d = true → Dp S H0 mm v d → v = toV d ∧ flatV v = true
  | .non, _, h => by obtain rfl : v = .non := h; exact ⟨rfl, rfl⟩
  | .bl _, _, h => by obtain rfl : v = .bl _ := h; exact ⟨rfl, rfl⟩
  | .int _, _, h => by obtain rfl : v = .int _ := h; exact ⟨rfl, rfl⟩
  | .str _, _, h => by obtain rfl : v = .str _ := h; exact ⟨rfl, rfl⟩
theorem flat_dps : ∀ {ds : List D} {vs : List V}, ds.all flatD = true → Dps S H0 mm vs ds → vs = ds.map toV ∧ vs.all flatV = true
  | [], vs, _, h => by cases (show vs = [] from h); exact ⟨rfl, rfl⟩
  | d :: ds, vs, f, h => by
    obtain ⟨v, r, rfl, q, t⟩ := h
    rw [List.all_cons, Bool.and_eq_true] at f
    obtain ⟨h1, h2⟩ := flat_dp f.1 q
    obtain ⟨h3, h4⟩ := flat_dps f.2 t
    exact ⟨by rw [h1, h3, List.map_cons], by rw [List.all_cons, h2, h4]; rfl⟩
end
def sign? (x : Str) : Option Nat := match x.cps.toList with
  | [c] => some c
  | _ => none
theorem sign_of {x : Str} {c : Nat} (h : sign? x = some c) : x = ⟨#[c]⟩ := by
  obtain ⟨⟨l⟩⟩ := x
  unfold sign? at h
  match l, h with
  | [c'], h => cases h; rfl
/-- x in a row of flat items -/
def inF (x : D) (ds : List D) : Bool := inV (toV x) (ds.map toV)
/-- x in a list of plain data -/
def inP (x : D) (y : D) : Option Bool := (toPy x).bind fun p => match toPy y with
  | some (.list qs) => if SeqAt.shaped p && SeqAt.shaped (.list qs) then some (qs.any fun z => PyData.eqv z p) else none
  | _ => none
def keyD : D → Option L2.Key
  | .int i => some (.inl i)
  | .str x => some (.inr x)
  | _ => none
theorem keyD_V {S : Sta} {H0 H : Hp} {mm : List Addr} {v : V} {k : L2.Key} : ∀ {d : D}, keyD d = some k → Rdd S H0 H mm v d → v = kV k
  | .int i, e, h => by cases e; exact h
  | .str x, e, h => by cases e; exact h
/-- the value at a key -/
def dicAt (ks vs : List D) (k : L2.Key) : Option D := match ks, vs with
  | a :: ks, d :: vs => if keyD a = some k then some d else dicAt ks vs k
  | _, _ => none
def inSeq (x y : D) (ds : List D) (deep : Bool) : Option Bool := if flatD x && ds.all flatD then some (inF x ds) else if deep then inP x y else none
def inB (x y : D) : Option Bool := match y with
  | .str z => (match x with
    | .str c => (sign? c).map fun c => decide (c ∈ z.cps.toList)
    | _ => none)
  | .tup ds => inSeq x y ds false
  | .lst ds => inSeq x y ds true
  | .scr ds => inSeq x y ds true
  | .dic ks vs => (keyD x).map fun k => (dicAt ks vs k).isSome
  | _ => none
def notInB (x y : D) : Option Bool := (inB x y).map (!·)
/-- by values -/
def rSign (neg : Bool) : R2 := fun x y H Q => ∃ (c : Nat) (z : Str), x = .str ⟨#[c]⟩ ∧ y = .str z ∧ Q (.bl (if neg then !decide (c ∈ z.cps.toList) else decide (c ∈ z.cps.toList))) H
def rKey (neg : Bool) : R2 := fun x y H Q => ∃ a o, y = .ref a ∧ DGet H a x o ∧ Q (.bl (if neg then !o.isSome else o.isSome)) H
def rDeep (K : PySem.W.Frag) (neg : Bool) : R2 := if neg then rNotInD K else rInD K
def rIns (K : PySem.W.Frag) (neg : Bool) : R2 := fun x y H Q => (rIn K neg x y H Q ∨ rDeep K neg x y H Q) ∨ (rSign neg x y H Q ∨ rKey neg x y H Q)
section
variable {X : Cx}
theorem op_key (hu : X.A.units + 65 < cLine) : OpR X (compareOp .In) (rKey false) := by
  intro pins s σ H x y v u Q I rx ry h
  obtain ⟨a, o, rfl, g, q⟩ := h
  obtain rfl : u = Value.ref a := ry
  exact d_in (by omega) I g rx fun s3 I3 => ⟨.bl o.isSome, H, I3, rfl, q⟩
theorem op_nkey (hu : X.A.units + 65 < cLine) : OpR X (compareOp .NotIn) (rKey true) := by
  intro pins s σ H x y v u Q I rx ry h
  obtain ⟨a, o, rfl, g, q⟩ := h
  obtain rfl : u = Value.ref a := ry
  exact d_notIn (by omega) I g rx fun s3 I3 => ⟨.bl (!o.isSome), H, I3, rfl, q⟩
theorem op_ins (hu : X.A.units + 65 < cLine) : OpR X (compareOp .In) (rIns X.K false) := OpR.or (OpR.or op_in_seq (op_inD hu)) (OpR.or op_in_sign (op_key hu))
theorem op_nins (hu : X.A.units + 65 < cLine) : OpR X (compareOp .NotIn) (rIns X.K true) := OpR.or (OpR.or op_notIn_seq (op_notInD hu)) (OpR.or op_notIn_sign (op_nkey hu))
end
section
variable {S : Sta} {W : WX}
theorem keyD_kV {S : Sta} {H0 : Hp} {mm : List Addr} {k : L2.Key} : ∀ {d : D}, Dp S H0 mm (kV k) d → keyD d = some k := fun {d} h => by
  cases k with
  | inl i =>
    cases d with
    | int j => cases (show V.int i = .int j from h); rfl
    | non => cases (show V.int i = .non from h)
    | bl b => cases (show V.int i = .bl b from h)
    | str z => cases (show V.int i = .str z from h)
    | tup ds => obtain ⟨_, _, e, _⟩ := h; cases e
    | lst ds => obtain ⟨_, _, e, _⟩ := h; cases e
    | scr ds => obtain ⟨_, _, e, _⟩ := h; cases e
    | dic _ _ => obtain ⟨_, _, e, _⟩ := h; cases e
    | obj _ _ => obtain ⟨_, _, _, e, _⟩ := h; cases e
    | mrf _ => obtain ⟨_, _, e⟩ := h; cases e
    | glo x => cases (show V.int i = .ref _ from h)
    | clo _ _ => obtain ⟨_, _, e, _⟩ := h; cases e
    | ty n => cases (show V.int i = .ty n from h)
  | inr x =>
    cases d with
    | str z => cases (show V.str x = .str z from h); rfl
    | int j => cases (show V.str x = .int j from h)
    | non => cases (show V.str x = .non from h)
    | bl b => cases (show V.str x = .bl b from h)
    | tup ds => obtain ⟨_, _, e, _⟩ := h; cases e
    | lst ds => obtain ⟨_, _, e, _⟩ := h; cases e
    | scr ds => obtain ⟨_, _, e, _⟩ := h; cases e
    | dic _ _ => obtain ⟨_, _, e, _⟩ := h; cases e
    | obj _ _ => obtain ⟨_, _, _, e, _⟩ := h; cases e
    | mrf _ => obtain ⟨_, _, e⟩ := h; cases e
    | glo x => cases (show V.str _ = .ref _ from h)
    | clo _ _ => obtain ⟨_, _, e, _⟩ := h; cases e
    | ty n => cases (show V.str x = .ty n from h)
theorem dic_get {H0 : Hp} {mm : List Addr} : ∀ {ks vs : List D} {kvs : List (L2.Key × V)} {k : L2.Key}, Dps S H0 mm (kvs.map fun p => kV p.1) ks → Dps S H0 mm (kvs.map (·.2)) vs → (dicAt ks vs k = none ↔ valV kvs k = none) ∧ ∀ d, dicAt ks vs k = some d → ∃ v, valV kvs k = some v ∧ Dp S H0 mm v d
  | [], vs, kvs, k, h, g => by
    have e : kvs = [] := by
      cases kvs with
      | nil => rfl
      | cons p r => cases (show (p :: r).map _ = [] from h)
    subst e
    exact ⟨⟨fun _ => rfl, fun _ => rfl⟩, fun d z => by cases z⟩
  | a :: ks, vs, kvs, k, h, g => by
    obtain ⟨v, r, e, q, t⟩ := h
    cases kvs with
    | nil => cases e
    | cons p kvs =>
      cases e
      cases vs with
      | nil => cases (show (p :: kvs).map _ = [] from g)
      | cons d vs =>
        obtain ⟨v2, r2, e2, q2, t2⟩ := g
        cases e2
        have hk := keyD_kV q
        obtain ⟨i1, i2⟩ := dic_get (k := k) t t2
        by_cases hp : p.1 = k
        · have ev : valV (p :: kvs) k = some p.2 := by unfold valV; simp [hp]
          have ed : dicAt (a :: ks) (d :: vs) k = some d := by unfold dicAt; rw [hk, hp, if_pos rfl]
          rw [ev, ed]
          exact ⟨⟨(fun z => nomatch z), (fun z => nomatch z)⟩, fun d' z => ⟨_, rfl, by cases z; exact q2⟩⟩
        · have ev : valV (p :: kvs) k = valV kvs k := by unfold valV; simp [hp]
          have ed : dicAt (a :: ks) (d :: vs) k = dicAt ks vs k := by
            rw [dicAt, hk, if_neg fun z => hp (Option.some.inj z)]
          rw [ev, ed]
          exact ⟨i1, i2⟩
theorem k_ins {neg : Bool} : K2 S W (rIns S.K neg) (hBool fun a b => if neg then notInB a b else inB a b) := k2_bool fun x y dx dy k H0 H mm μ σ ρ Q e ok rx ry q => by
  obtain ⟨i, hi, hk⟩ : ∃ i, inB dx dy = some i ∧ k = if neg then !i else i := by
    cases neg with
    | false => exact ⟨k, e, rfl⟩
    | true =>
      obtain ⟨i, h1, h2⟩ := Option.map_eq_some_iff.mp (show (inB dx dy).map (!·) = some k from e)
      exact ⟨i, h1, h2.symm⟩
  have seq : ∀ {ds : List D} {vs : List V} {a : Addr} {deep : Bool}, y = .ref a → (SqL S.K H a vs ∨ SqT S.K H a vs) → Dps S H0 mm vs ds → inSeq dx dy ds deep = some i → rIns S.K neg x y H Q := by
    intro ds vs a deep ey hq dv hs
    unfold inSeq at hs
    split at hs
    · rename_i hf
      rw [Bool.and_eq_true] at hf
      cases hs
      obtain ⟨e1, e2⟩ := flat_rdd hf.1 rx
      obtain ⟨e3, e4⟩ := flat_dps hf.2 dv
      refine .inl (.inl ⟨a, vs, ey, hq, e2, e4, ?_⟩)
      rw [e1, e3]
      unfold inF at hk
      rw [← hk]
      exact q
    · split at hs
      · obtain ⟨p, e1, hs⟩ := Option.bind_eq_some_iff.mp hs
        split at hs
        · rename_i qs e2
          split at hs
          · rename_i hsh
            obtain ⟨h1, h2⟩ := Bool.and_eq_true_iff.mp hsh
            cases hs
            refine .inl (.inr ?_)
            unfold rDeep
            cases neg with
            | false => exact ⟨p, qs, rel_rdd ok.g.sub dx rx e1, rel_rdd ok.g.sub dy ry e2, h1, h2, by rw [hk] at q; exact q⟩
            | true => exact ⟨p, qs, rel_rdd ok.g.sub dx rx e1, rel_rdd ok.g.sub dy ry e2, h1, h2, by rw [hk] at q; exact q⟩
          · cases hs
        · cases hs
      · cases hs
  cases dy with
  | str z =>
    cases dx with
    | str c =>
      obtain ⟨cc, e1, rfl⟩ := Option.map_eq_some_iff.mp (show (sign? c).map (fun c => decide (c ∈ z.cps.toList)) = some i from hi)
      rw [sign_of e1] at rx
      exact .inr (.inl ⟨cc, z, rx, ry, by rw [hk] at q; exact q⟩)
    | _ => cases hi
  | tup ds =>
    obtain ⟨a, vs, ey, hq, dv⟩ := ry
    exact seq ey (.inr (sqT_sub ok.g.sub hq)) dv hi
  | lst ds =>
    obtain ⟨a, vs, ey, hq, dv⟩ := id ry
    exact seq ey (.inl (SqL.of hq)) dv hi
  | scr ds =>
    obtain ⟨a, vs, ey, hq, dv⟩ := id ry
    exact seq ey (.inl (sqL_sub ok.g.sub hq)) dv hi
  | dic ks vs =>
    obtain ⟨a, kvs, ey, hq, d1, d2⟩ := ry
    obtain ⟨kk, e1, e2⟩ := Option.map_eq_some_iff.mp (show (keyD dx).map (fun k => (dicAt ks vs k).isSome) = some i from hi)
    have ex := keyD_V e1 rx
    obtain ⟨h1, h2⟩ := dic_get (k := kk) d1 d2
    have hs : (valV kvs kk).isSome = i := by
      rw [← e2]
      cases z : dicAt ks vs kk with
      | none => rw [h1.mp z] <;> rfl
      | some d => obtain ⟨v, z2, _⟩ := h2 d z; rw [z2]; rfl
    refine .inr (.inr ⟨a, valV kvs kk, ey, by rw [ex]; exact DGet.k hq, ?_⟩)
    rw [hs, ← hk]
    exact q
  | _ => cases hi
theorem e_in {X : Cx} {a b : Expr} {ga gb : EF Vl} {pos : Pos} (hu : X.A.units + 65 < cLine) (hK : X.K = S.K) (ha : PE X a (rd S W ga)) (hb : PE X b (rd S W gb)) (hm : behindInMarks .In b = false) : PE X (.Compare a [.In] [b] pos) (rd S W (g2 (hBool inB) ga gb)) := e_cmp (op_ins hu) (by rw [hK]; exact k_ins (neg := false)) ha hb hm
theorem e_nin {X : Cx} {a b : Expr} {ga gb : EF Vl} {pos : Pos} (hu : X.A.units + 65 < cLine) (hK : X.K = S.K) (ha : PE X a (rd S W ga)) (hb : PE X b (rd S W gb)) (hm : behindInMarks .NotIn b = false) : PE X (.Compare a [.NotIn] [b] pos) (rd S W (g2 (hBool notInB) ga gb)) := e_cmp (op_nins hu) (by rw [hK]; exact k_ins (neg := true)) ha hb hm
theorem t_in {X : Cx} {a b : Expr} {ga gb : EF Vl} {pos : Pos} (hu : X.A.units + 65 < cLine) (hK : X.K = S.K) (ha : PE X a (rd S W ga)) (hb : PE X b (rd S W gb)) (hm : behindInMarks .In b = false) : PT X (.Compare a [.In] [b] pos) (rt S W (gB (g2 (hBool inB) ga gb))) := t_cmp (op_ins hu) (by rw [hK]; exact k_ins (neg := false)) ha hb hm
theorem t_nin {X : Cx} {a b : Expr} {ga gb : EF Vl} {pos : Pos} (hu : X.A.units + 65 < cLine) (hK : X.K = S.K) (ha : PE X a (rd S W ga)) (hb : PE X b (rd S W gb)) (hm : behindInMarks .NotIn b = false) : PT X (.Compare a [.NotIn] [b] pos) (rt S W (gB (g2 (hBool notInB) ga gb))) := t_cmp (op_nins hu) (by rw [hK]; exact k_ins (neg := true)) ha hb hm

/-! ### < -/
def ltS (a b : Str) : Bool := decide (a.cps.toList < b.cps.toList)
def ltF : D → D → Option Bool
  | .int i, .int j => some (decide (i < j))
  | .str a, .str b => some (ltS a b)
  | _, _ => none
/-- == of flat items of one kind -/
def eqI : D → D → Option Bool
  | .int i, .int j => some (i == j)
  | .str a, .str b => some (a == b)
  | _, _ => none
/-- tuples of such items -/
def ltL : List D → List D → Option Bool
  | [], [] => some false
  | [], _ :: _ => some true
  | _ :: _, [] => some false
  | a :: as, b :: bs => match eqI a b with
    | some true => ltL as bs
    | some false => (match ltL as bs with
      | some _ => ltF a b
      | none => none)
    | none => none
def ltB : D → D → Option Bool
  | .tup as, .tup bs => ltL as bs
  | a, b => ltF a b
def rLtA (K : PySem.W.Frag) : R2 := fun x y H Q => ∃ a b xs ys, x = .ref a ∧ y = .ref b ∧ SqT K H a xs ∧ SqT K H b ys ∧ ∃ e r : Nat → Bool, (∀ j (h1 : j < xs.length) (h2 : j < ys.length), (∃ i k, xs[j] = .int i ∧ ys[j] = .int k ∧ e j = (i == k) ∧ r j = decide (i < k)) ∨ ∃ i k, xs[j] = .str i ∧ ys[j] = .str k ∧ e j = (i == k) ∧ r j = ltS i k) ∧
  Q (.bl (Ob.lexAt e r (decide (xs.length < ys.length)) 0 (min xs.length ys.length))) H
section
variable {X : Cx}
theorem RcOp.lt_str {A : Around} {s : Shared} (a b : Str) (t u : Tok) : Ob.RcOp .Lt A s (.str a t) (.str b u) (ltS a b) := fun _ _ _ _ h => PyProof.Rows.lt_str h
theorem Vals.at_get {xs : List V} {us : List Value} (r : Vals xs us) {j : Nat} (h1 : j < xs.length) (h2 : j < us.toArray.size) : RelV xs[j] us.toArray[j] := by
  obtain ⟨u, hu, rv⟩ := r.get (List.getElem?_eq_getElem h1)
  have e : us.toArray[j] = u := by
    have z : us[j]'(by simpa using h2) = u := Option.some.inj (by rw [← hu, List.getElem?_eq_getElem])
    simpa using z
  rw [e]
  exact rv
theorem op_ltA (hu : X.A.units < cLine) : OpR X (compareOp .Lt) (rLtA X.K) := by
  intro pins s σ H x y v u Q I rx ry h
  obtain ⟨a, b, xs, ys, rfl, rfl, ha, hb, e, r, hj, q⟩ := h
  cases rx
  cases ry
  obtain ⟨its, r1, p1, _⟩ := I.tuple ha
  obtain ⟨its2, r2, p2, _⟩ := I.tuple hb
  have l1 : its.toArray.size = xs.length := by rw [List.size_toArray]; exact r1.length.symm
  have l2 : its2.toArray.size = ys.length := by rw [List.size_toArray]; exact r2.length.symm
  have R := Ob.RcOp.tuples_lt (A := X.A) (s := s) (e := e) (r := r) p1 p2 hu (fun j h1 h2 => by
    have q1 := Vals.at_get r1 (by rw [← l1]; exact h1) h1
    have q2 := Vals.at_get r2 (by rw [← l2]; exact h2) h2
    rcases hj j (by rw [← l1]; exact h1) (by rw [← l2]; exact h2) with ⟨i, k, z1, z2, z3, _⟩ | ⟨i, k, z1, z2, z3, _⟩
    · rw [z1] at q1
      rw [z2] at q2
      obtain ⟨t, et⟩ := q1
      obtain ⟨t', et'⟩ := q2
      rw [et, et', z3]
      exact SeqAt.EqAt.int_int _ _ _ _
    · rw [z1] at q1
      rw [z2] at q2
      obtain ⟨t, et⟩ := q1
      obtain ⟨t', et'⟩ := q2
      rw [et, et', z3]
      exact SeqAt.EqAt.str_str _ _ _ _) (fun j h1 h2 _ => by
    have q1 := Vals.at_get r1 (by rw [← l1]; exact h1) h1
    have q2 := Vals.at_get r2 (by rw [← l2]; exact h2) h2
    rcases hj j (by rw [← l1]; exact h1) (by rw [← l2]; exact h2) with ⟨i, k, z1, z2, _, z3⟩ | ⟨i, k, z1, z2, _, z3⟩
    · rw [z1] at q1
      rw [z2] at q2
      obtain ⟨t, et⟩ := q1
      obtain ⟨t', et'⟩ := q2
      rw [et, et', z3]
      exact Ob.RcOp.lt_int _ _ _ _
    · rw [z1] at q1
      rw [z2] at q2
      obtain ⟨t, et⟩ := q1
      obtain ⟨t', et'⟩ := q2
      rw [et, et', z3]
      exact RcOp.lt_str _ _ _ _)
  rw [l1, l2] at R
  have z : wpAny (model X.prog X.w) X.A (compareOp .Lt (.ref a) (.ref b)) (EP X pins σ Q) X.xe s := R X.prog X.w X.xe (EP X pins σ Q) ⟨.bl _, H, I, rfl, q⟩
  exact z
/-- what the items of the pairs give -/
def eAt (as bs : List D) (j : Nat) : Bool := ((as[j]?).bind fun a => (bs[j]?).bind fun b => eqI a b).getD false
def rAt (as bs : List D) (j : Nat) : Bool := ((as[j]?).bind fun a => (bs[j]?).bind fun b => ltF a b).getD false
theorem lexAt_shift {e r e' r' : Nat → Bool} {z : Bool} (he : ∀ j, e' (j + 1) = e j) (hr : ∀ j, r' (j + 1) = r j) : ∀ (k i : Nat), Ob.lexAt e' r' z (i + 1) k = Ob.lexAt e r z i k
  | 0, _ => rfl
  | k + 1, i => by rw [Ob.lexAt_succ, Ob.lexAt_succ, he, hr, lexAt_shift he hr k (i + 1)]
theorem ltL_lex : ∀ {as bs : List D} {k : Bool}, ltL as bs = some k → k = Ob.lexAt (eAt as bs) (rAt as bs) (decide (as.length < bs.length)) 0 (min as.length bs.length) ∧ ∀ (j : Nat) (a b : D), as[j]? = some a → bs[j]? = some b → ∃ e r, eqI a b = some e ∧ ltF a b = some r
  | [], [], k, h => by cases h; exact ⟨rfl, fun j a b e => by simp at e⟩
  | [], b :: bs, k, h => by cases h; exact ⟨by simp [Ob.lexAt_zero], fun j a b e => by simp at e⟩
  | a :: as, [], k, h => by cases h; exact ⟨by simp [Ob.lexAt_zero], fun j a b _ e => by simp at e⟩
  | a :: as, b :: bs, k, h => by
    have hm : min (a :: as).length (b :: bs).length = min as.length bs.length + 1 := by simp only [List.length_cons]; omega
    have e0 : eAt (a :: as) (b :: bs) 0 = (eqI a b).getD false := by simp [eAt]
    have r0 : rAt (a :: as) (b :: bs) 0 = (ltF a b).getD false := by simp [rAt]
    have hd : decide ((a :: as).length < (b :: bs).length) = decide (as.length < bs.length) := by simp
    have lf : ∀ {e}, eqI a b = some e → ∃ r, ltF a b = some r := fun {e} z => by
      cases a <;> cases b <;> first | (cases z; done) | exact ⟨_, rfl⟩
    have sh : ∀ z, Ob.lexAt (eAt (a :: as) (b :: bs)) (rAt (a :: as) (b :: bs)) z 1 (min as.length bs.length) = Ob.lexAt (eAt as bs) (rAt as bs) z 0 (min as.length bs.length) := fun z => lexAt_shift (fun j => by simp [eAt]) (fun j => by simp [rAt]) _ _
    rw [hm, Ob.lexAt_succ, e0, r0, hd, sh]
    unfold ltL at h
    cases q : eqI a b with
    | none => rw [q] at h; cases h
    | some e =>
      obtain ⟨r, hr⟩ := lf q
      rw [q] at h
      have nx : ∀ {k' : Bool}, ltL as bs = some k' → ∀ (j : Nat) (a' b' : D), (a :: as)[j]? = some a' → (b :: bs)[j]? = some b' → ∃ e r, eqI a' b' = some e ∧ ltF a' b' = some r := fun {k'} z j a' b' e1 e2 => by
        cases j with
        | zero => simp at e1 e2; subst e1; subst e2; exact ⟨e, r, q, hr⟩
        | succ j => exact (ltL_lex z).2 j a' b' (by simpa using e1) (by simpa using e2)
      cases e with
      | true =>
        have h : ltL as bs = some k := h
        exact ⟨by rw [(ltL_lex h).1]; rfl, nx h⟩
      | false =>
        cases q2 : ltL as bs with
        | none => rw [q2] at h; cases h
        | some k' =>
          rw [q2] at h
          have h : ltF a b = some k := h
          exact ⟨by rw [h]; rfl, nx q2⟩
def rLtS : R2 := fun x y H Q => ∃ i j, x = .str i ∧ y = .str j ∧ Q (.bl (decide (i.cps.toList < j.cps.toList))) H
def rLts (K : PySem.W.Frag) : R2 := fun x y H Q => (rI0 (fun i j => .bl (decide (i < j))) x y H Q ∨ rLtS x y H Q) ∨ rLtA K x y H Q
theorem op_lts (hu : X.A.units < cLine) : OpR X (compareOp .Lt) (rLts X.K) := OpR.or (OpR.or op_lt op_lt_str) (op_ltA hu)
theorem k_lts : K2 S W (rLts S.K) (hBool ltB) := k2_bool fun x y dx dy k H0 H mm μ σ ρ Q e ok rx ry q => by
  cases dx with
  | int i =>
    cases dy with
    | int j => cases e; exact .inl (.inl ⟨i, j, rx, ry, q⟩)
    | _ => cases e
  | str i =>
    cases dy with
    | str j => cases e; exact .inl (.inr ⟨i, j, rx, ry, q⟩)
    | _ => cases e
  | tup as =>
    cases dy with
    | tup bs =>
      obtain ⟨h1, h2⟩ := ltL_lex (show ltL as bs = some k from e)
      obtain ⟨a, vs, ea, qa, da⟩ := rx
      obtain ⟨b, ws, eb, qb, db⟩ := ry
      have l1 := da.length
      have l2 := db.length
      refine .inr ⟨a, b, vs, ws, ea, eb, sqT_sub ok.g.sub qa, sqT_sub ok.g.sub qb, eAt as bs, rAt as bs, fun j h3 h4 => ?_, by rw [l1, l2, ← h1]; exact q⟩
      have g1 : as[j]? = some as[j] := List.getElem?_eq_getElem (by rw [← l1]; exact h3)
      have g2 : bs[j]? = some bs[j] := List.getElem?_eq_getElem (by rw [← l2]; exact h4)
      obtain ⟨v, v1, v2⟩ := da.get g1
      obtain ⟨w, w1, w2⟩ := db.get g2
      rw [List.getElem?_eq_getElem h3] at v1
      rw [List.getElem?_eq_getElem h4] at w1
      cases v1
      cases w1
      obtain ⟨e1, r1, q1, q2⟩ := h2 j _ _ g1 g2
      have ee : eAt as bs j = e1 := by unfold eAt; rw [g1, g2]; show (eqI as[j] bs[j]).getD false = e1; rw [q1]; rfl
      have er : rAt as bs j = r1 := by unfold rAt; rw [g1, g2]; show (ltF as[j] bs[j]).getD false = r1; rw [q2]; rfl
      rw [ee, er]
      revert v2 w2 q1 q2
      cases as[j] with
      | int i =>
        cases bs[j] with
        | int k => intro v2 w2 q1 q2; cases q1; cases q2; exact .inl ⟨i, k, v2, w2, rfl, rfl⟩
        | _ => intro _ _ z; cases z
      | str i =>
        cases bs[j] with
        | str k => intro v2 w2 q1 q2; cases q1; cases q2; exact .inr ⟨i, k, v2, w2, rfl, rfl⟩
        | _ => intro _ _ z; cases z
      | _ => intro _ _ z; cases z
    | _ => cases e
  | _ => cases dy <;> cases e
theorem e_lts {a b : Expr} {ga gb : EF Vl} {pos : Pos} (hu : X.A.units < cLine) (hK : X.K = S.K) (ha : PE X a (rd S W ga)) (hb : PE X b (rd S W gb)) (hm : behindInMarks .Lt b = false) : PE X (.Compare a [.Lt] [b] pos) (rd S W (g2 (hBool ltB) ga gb)) := e_cmp (op_lts hu) (by rw [hK]; exact k_lts) ha hb hm
theorem t_lts {a b : Expr} {ga gb : EF Vl} {pos : Pos} (hu : X.A.units < cLine) (hK : X.K = S.K) (ha : PE X a (rd S W ga)) (hb : PE X b (rd S W gb)) (hm : behindInMarks .Lt b = false) : PT X (.Compare a [.Lt] [b] pos) (rt S W (gB (g2 (hBool ltB) ga gb))) := t_cmp (op_lts hu) (by rw [hK]; exact k_lts) ha hb hm
end
end
end DL
set_option maxRecDepth 100000
set_option maxHeartbeats 2000000
/-! What loops walk: strs, enumerate. -/
namespace DL
open PySem PySem.Spec L2 NdefX
open PyProof.Rows (boot_enumerate Call_)

/-! ### enumerate of a tuple -/
theorem meets_enum1 {v : Value} {o : Obj} {P : Heap → Prop} (B : Begins v o P) :
    Meets (Builtin.«enumerate.__new__» ⟨[.type "enumerate", v], []⟩) (fun _ R s => P s.heap ∧
      R (.ok (.ret (.ref (s.heap.push o).objs.size))) { s with heap := (s.heap.push o).push { cls := .type "enumerate", data := .fields #[.none, .bool false, .ref s.heap.objs.size, rawInt 0, .none, .none] } }) :=
  .of_wp fun prog w A R s h => by
    obtain ⟨hp, g, d, tk, os⟩ := s
    obtain ⟨p, h⟩ := h
    have hs := sub_enumerate
    have it : ∀ {A' : Around} {E : Value → Shared → Prop} {Q : Value → Shared → Prop}, Q (.ref hp.objs.size) ⟨hp.push o, g, d, tk, os⟩ → wpAny (model prog w) A' (pyIter v) Q E ⟨hp, g, d, tk, os⟩ := fun q => B.iter prog w _ _ ⟨hp, g, d, tk, os⟩ _ p q
    wp_walk using it
    refine wpAny_stack_any fun st => wpAny_pure ?_
    split
    · rename_i c _ _ _ _ _
      cases (c == Value.type "enumerate") <;> (wp_walk using it; exact ⟨_, rfl, h⟩)
    · wp_walk using it
      exact ⟨_, rfl, h⟩
section
variable {prog : Program} {w : World} {A : Around} {E : Value → Shared → Prop} {s : Shared}
theorem call_enum_tup {a : Addr} {items : Array Value} {Q : Value → Shared → Prop} (ht : s.heap.IsTuple a items)
    (h : ∀ h', IsEnum h' (s.heap.objs.size + 1) s.heap.objs.size 0 .none → h'.IsTupleIter s.heap.objs.size a 0 → h'.objs.size = s.heap.objs.size + 2 →
      (∀ b o, s.heap.get? b = some o → h'.get? b = some o) → Q (.ref (s.heap.objs.size + 1)) { s with heap := h' }) :
    wpAny (model prog w) A (call (.type "enumerate") [.ref a]) Q E s := by
  obtain ⟨o, ho⟩ : ∃ o : Obj, o = { cls := .type "tuple_iterator", data := .fields #[.ref a, .int 0 0] } := ⟨_, rfl⟩
  have B := begins_tuple a items
  rw [← ho] at B
  refine callType_new F.called_enumerate (by decide) (F.typeCall_enumerate_1 _) (F.newCall_enumerate_1 _) (fun obj => F.args_object_init_2 obj _) F.entry_enumerate_new (meets_enum1 B) ⟨ht, ?_⟩
  have hz : (s.heap.push o).objs.size = s.heap.objs.size + 1 := Heap.size_push ..
  show _ ∧ _
  rw [hz]
  have he : IsEnum ((s.heap.push o).push { cls := .type "enumerate", data := .fields #[.none, .bool false, .ref s.heap.objs.size, rawInt 0, .none, .none] }) (s.heap.objs.size + 1) s.heap.objs.size 0 .none := by
    have z := Heap.get?_push_size (s.heap.push o) (o := { cls := .type "enumerate", data := .fields #[.none, .bool false, .ref s.heap.objs.size, rawInt 0, .none, .none] }) rfl
    rw [hz] at z
    exact z
  have hi : ((s.heap.push o).push { cls := .type "enumerate", data := .fields #[.none, .bool false, .ref s.heap.objs.size, rawInt 0, .none, .none] }).get? s.heap.objs.size = some o := Heap.get?_push_of_some _ (Heap.get?_push_size _ B.free)
  exact ⟨⟨_, he, rfl⟩, h _ he ⟨o, hi, by rw [ho], by rw [ho]; rfl⟩ (by rw [Heap.size_push, hz]) fun b u x => Heap.get?_push_of_some _ (Heap.get?_push_of_some _ x)⟩
end
/-- the tuple at a, each item in a new pair -/
def ItT (K : PySem.W.Frag) (a : Addr) : It :=
  ⟨fun i H => ∃ (xs : List V) (x : V), SqT K H a xs ∧ xs[i]? = some x, fun i H v H' => ∃ T x, v = .ref T ∧ H T = none ∧ H' = upd H T (.tup [.int (i : Nat), x]) ∧ ∀ xs, SqT K H a xs → xs[i]? = some x, fun i H => ∃ xs : List V, SqT K H a xs ∧ xs.length ≤ i⟩
theorem turn_enumT {P : Program} {w : World} {K : PySem.W.Frag} {elts : List Expr} {kk : Nat} {tpos : Pos} (a e it : Addr) (hai : a ≠ it) :
    Turn P w K (.Tuple elts kk tpos) (ItT K a) [e, it] e (fun i h => (∃ old, IsEnum h e it ((i : Nat) : Int) old) ∧ h.IsTupleIter it a i ∧ e ≠ it) where
  mem := by simp
  obj := fun i h st b hb => by
    obtain ⟨⟨old, he⟩, ⟨o, ho, _, hd⟩, _⟩ := st
    rcases (show b = e ∨ b = it by simpa using hb) with z | z
    · rw [z]
      exact ⟨_, he, fun v q => nomatch q⟩
    · exact ⟨o, by rw [z]; exact ho, fun v q => by rw [hd] at q; cases q⟩
  keep := fun i h h' st k => let ⟨⟨old, he⟩, hi, hne⟩ := st; ⟨⟨old, k e (by simp) _ he⟩, hi.at fun o q => k it (by simp) o q, hne⟩
  item := by
    intro X hP hw hK hc i pins s σ H E I hf st hg
    obtain ⟨⟨old, he⟩, hit, hne⟩ := st
    subst hP hw hK
    obtain ⟨xs, x, hq, hx⟩ := hg
    obtain ⟨its, rv, p, hz⟩ := I.tuple hq
    obtain ⟨u, hu, ru⟩ := rv.get hx
    have p : s.heap.IsTuple a its.toArray := p
    have hel : e < s.heap.objs.size := Heap.lt_size he
    have hil : it < s.heap.objs.size := by obtain ⟨_, q, _⟩ := hit; exact Heap.lt_size q
    have hal : a < s.heap.objs.size := by obtain ⟨_, q, _⟩ := p; exact Heap.lt_size q
    have hlt : i < its.toArray.size := by
      have z := (List.getElem?_eq_some_iff.mp hu).1
      simpa using z
    have D := Draws.tuple (prog := X.prog) (w := X.w) (A := X.A.in1) (I.ok.hd hc) it a hai its.toArray
    have hea : e ≠ a := fun z => by
      obtain ⟨o, q, cc, _⟩ := p
      rw [← z, he] at q
      have q' := Option.some.inj q
      rw [← q'] at cc
      have cc : Value.type "enumerate" = Value.type "tuple" := cc
      exact absurd (Value.type.inj cc) (by decide)
    refine wpAny_pyNext_enum_itemD D he ⟨hit, p⟩ hlt hne (by simp [hne, hea]) fun y h' tk hy ho hst hT hsz hk => ?_
    obtain rfl : y = u := by
      have z : its.toArray[i]? = some u := by simpa using hu
      exact Option.some.inj (hy.symm.trans z)
    refine ⟨_, rfl, wpAny_letOwnedTupleGo_enum (s := { s with heap := h', toks := tk + 1 }) ho fun h'' he' sb => ?_⟩
    have hT2 : h''.get? s.heap.objs.size = some { cls := .type "tuple", data := .seq #[.int i tk, y] } := (sb.2 _ (Nat.ne_of_gt hel)).trans hT
    have new : ObjOk X.prog X.w (upd H s.heap.objs.size (.tup [.int (i : Nat), x])) h'' s.heap.objs.size (.tup [.int (i : Nat), x]) :=
      ⟨by show 2 ≤ sizeLine; decide, [.int i tk, y], .cons ⟨_, rfl⟩ (.cons ru .nil), ⟨_, hT2, rfl, _, rfl⟩⟩
    have I1 : Inv X pins σ (upd H s.heap.objs.size (.tup [.int (i : Nat), x])) { s with heap := h'', toks := tk + 1 } :=
      I.turnedNew (ch := [e, it]) (fun b ob hb q => (sb.2 b (fun z => hb (by simp [z]))).trans (hk b ob (fun z => hb (by simp [z])) (fun z => hb (by simp [z])) q)) hf (Nat.le_refl _) new
    refine ⟨.ref s.heap.objs.size, _, I1, rfl, ⟨_, x, rfl, I.hok.fresh (Nat.le_refl _), rfl, fun ys hy => by rw [I.tuple_inj hy hq]; exact hx⟩, ⟨⟨y, ?_⟩, hst.1.at fun o q => (sb.2 it (Ne.symm hne)).trans q, hne⟩, fun b hb => ?_⟩
    · have e1 : ((i + 1 : Nat) : Int) = (i : Int) + 1 := by omega
      rw [e1]
      exact he'
    · have hb' : b < s.heap.objs.size := by
        rcases (show b = e ∨ b = it by simpa using hb) with z | z
        · rw [z]; exact hel
        · rw [z]; exact hil
      rw [upd_ne (Nat.ne_of_lt hb')]
      exact (hf b hb).1
  done := by
    intro X hP hw hK hc i pins s σ H E I hf st hg
    obtain ⟨⟨old, he⟩, hit, hne⟩ := st
    subst hP hw hK
    obtain ⟨xs, hq, hx⟩ := hg
    obtain ⟨its, rv, p, hz⟩ := I.tuple hq
    have p : s.heap.IsTuple a its.toArray := p
    obtain ⟨f0, f1, f2, f3, f4, f5⟩ := hf it (by simp)
    have hl := rv.length
    have hT : s.TypeIs (.ref e) "enumerate" := ⟨_, he, rfl⟩
    have hh : X.A.in1.handled = none := I.ok.hd hc
    unfold pyNext
    refine wpAny_bind (wpAny_attempt (wpAny_callSpecial?_slot (name := Str.ofString "__next__") hT F.slot_enumerate_next
      (wpAny_call_entry F.slot_enumerate_next hT F.entry_enumerate_next ?_ (F.args_enumerate_next_1 _))))
    show wpAny _ _ (field (.ref e) 2 >>= _) _ _ _
    refine wpAny_bind (wpAny_field he rfl (x := .ref it) rfl ?_)
    refine wpAny_bind (wpAny_nextOf_tuple_end hh hit p (by simp; omega) fun h' x eb hx' => ?_)
    obtain ⟨o, ho, hcl⟩ := hx'
    refine wpAny_bind (wpAny_isInstance (T := "StopIteration") (b := true) ⟨o, ho, hcl⟩ isSubtype_stop ?_)
    exact wpAny_pure ⟨rfl, I.turned (t' := s.toks) (fun b o hb q => eb b o hb q) f0 f1 f3 f4 f5⟩
  self := fun A i s Q E st h => let ⟨⟨_, he⟩, _⟩ := st; wpAny_pyIter_enum he h
/-- enumerate of a list or a tuple -/
def iEnumA (K : PySem.W.Frag) (ta : TA) : TI := fun σ H R => ta σ H fun vs H1 => ∃ a, vs = [.ref a] ∧ (((∃ xs, SqL K H1 a xs) ∧ R (Ite K a) H1) ∨ ((∃ xs, SqT K H1 a xs) ∧ R (ItT K a) H1))
theorem pi_enumA {X : Cx} {e : Expr} {ta : TA} {p pos tpos : Pos} {elts : List Expr} {kk : Nat} (hg : Gl X "enumerate") (hm : X.mg "enumerate" = none) (ha : PA X [e] ta) (hs : starEach [e] X.env = [(false, eval e X.env)] := by rfl) :
    PI X (.Tuple elts kk tpos) (.Call (.Name "enumerate" p) [e] [] pos) (iEnumA X.K ta) := by
  refine ⟨fun pins s σ H R I h => ?_⟩
  refine Call_ (ld_blt I hg hm boot_enumerate (PyProof.Rows.callWith_type1 (thn (ha.run pos pins s σ H _ I h) fun us s1 ⟨vs, H1, I1, r1, q1⟩ => ?_) hs rfl))
  obtain ⟨a, ex, q1⟩ := q1
  subst ex
  cases r1 with
  | cons r rr =>
    cases rr
    cases r
    have fp : ∀ b ∈ [s1.heap.objs.size + 1, s1.heap.objs.size], FpOk X pins H1 b := fun b hb => by
      have hle : s1.heap.objs.size ≤ b := by
        rcases (show b = s1.heap.objs.size + 1 ∨ b = s1.heap.objs.size by simpa using hb) with z | z
        · rw [z]; exact Nat.le_add_right _ _
        · rw [z]; exact Nat.le_refl _
      exact I1.fpOk hle (I1.hok.fresh hle)
    rcases q1 with ⟨⟨xs, hq⟩, q⟩ | ⟨⟨xs, hq⟩, q⟩
    · obtain ⟨its, rv, p', hz⟩ := I1.list hq
      refine call_enumerate_list p'.isList fun h' he hit hsz hk => wpAny_pyIter_enum he ?_
      have I2 : Inv X pins σ H1 { s1 with heap := h' } := I1.kept (t' := s1.toks) hk
      exact ⟨s1.heap.objs.size + 1, [s1.heap.objs.size + 1, s1.heap.objs.size], _, _, H1, rfl, I2, turn_enum a (s1.heap.objs.size + 1) s1.heap.objs.size, ⟨⟨.none, he⟩, hit, Nat.succ_ne_self _⟩, fp, q⟩
    · obtain ⟨its, rv, p', hz⟩ := I1.tuple hq
      have p' : s1.heap.IsTuple a its.toArray := p'
      have hal : a < s1.heap.objs.size := by obtain ⟨_, q, _⟩ := p'; exact Heap.lt_size q
      refine call_enum_tup p' fun h' he hit hsz hk => wpAny_pyIter_enum he ?_
      have I2 : Inv X pins σ H1 { s1 with heap := h' } := I1.kept (t' := s1.toks) hk
      exact ⟨s1.heap.objs.size + 1, [s1.heap.objs.size + 1, s1.heap.objs.size], _, _, H1, rfl, I2, turn_enumT a (s1.heap.objs.size + 1) s1.heap.objs.size (Nat.ne_of_lt hal), ⟨⟨.none, he⟩, hit, Nat.succ_ne_self _⟩, fp, q⟩

/-! ### what the loop sees -/
def pairsD (ds : List D) : List D := (ds.zipIdx).map fun p => .tup [.int (p.2 : Nat), p.1]
/-- the items of the one argument, a list or a tuple -/
def sq1 : List D → Option (List D)
  | [.lst ds] => some ds
  | [.scr ds] => some ds
  | [.tup ds] => some ds
  | _ => none
theorem sq1_rel {S : Sta} {H0 : Hp} {mm : List Addr} {vs : List V} {as ds : List D} (e : sq1 as = some ds) (h : Dps S H0 mm vs as) : ∃ a ws, vs = [.ref a] ∧ Dps S H0 mm ws ds ∧ (SqL S.K H0 a ws ∨ SqT S.K H0 a ws) := by
  match as, e with
  | [.lst xs], e =>
    cases e
    obtain ⟨v, r, rfl, ⟨a, ws, rfl, q, dd⟩, z⟩ := h
    cases (show r = [] from z)
    exact ⟨a, ws, rfl, dd, .inl (SqL.of q)⟩
  | [.scr xs], e =>
    cases e
    obtain ⟨v, r, rfl, ⟨a, ws, rfl, q, dd⟩, z⟩ := h
    cases (show r = [] from z)
    exact ⟨a, ws, rfl, dd, .inl q⟩
  | [.tup xs], e =>
    cases e
    obtain ⟨v, r, rfl, ⟨a, ws, rfl, q, dd⟩, z⟩ := h
    cases (show r = [] from z)
    exact ⟨a, ws, rfl, dd, .inr q⟩
def iEnmV (as : List D) : EF (List D) := match sq1 as with
  | some ds => ret (pairsD ds)
  | none => stuck
def iEnm (t : EF (List D)) : EF (List D) := bnd t iEnmV
section
variable {S : Sta} {W : WX} {X : Cx} {tg e : Expr} {g : EF Vl} {t : EF (List D)} {p pos tpos : Pos} {elts : List Expr} {kk : Nat}
theorem pairs_get {ds : List D} {i : Nat} {d : D} (e : (pairsD ds)[i]? = some d) : ∃ x, ds[i]? = some x ∧ d = .tup [.int (i : Nat), x] := by
  unfold pairsD at e
  rw [List.getElem?_map] at e
  obtain ⟨p, e1, rfl⟩ := Option.map_eq_some_iff.mp e
  rw [List.getElem?_zipIdx] at e1
  obtain ⟨x, e2, rfl⟩ := Option.map_eq_some_iff.mp e1
  exact ⟨x, e2, by simp⟩
theorem pairs_len {ds : List D} : (pairsD ds).length = ds.length := by unfold pairsD; simp
/-- a new pair is frozen -/
theorem pair_ok {H0 H : Hp} {mm : List Addr} {μ : Mu} {σ : St} {ρ : Env} {T : Addr} {x : V} {d : D} {i : Int} (ok : Ok S H0 H mm μ σ ρ) (hT : H T = none) (dx : Dp S H0 mm x d) :
    ∃ H02, Ok S H02 (upd H T (.tup [.int i, x])) mm μ σ ρ ∧ Nx (Own σ ρ) H0 H mm H02 (upd H T (.tup [.int i, x])) mm ∧ Dp S H02 mm (.ref T) (.tup [.int i, d]) := by
  have n : Nx (Own σ ρ) H0 H mm (upd H0 T (.tup [.int i, x])) (upd H T (.tup [.int i, x])) mm := Nx.alloc ok.g.sub hT
  exact ⟨_, ok.alloc hT, n, T, [.int i, x], rfl, SqT.of upd_same, _, _, rfl, rfl, _, _, rfl, dx.nx n, rfl⟩
theorem walks_enumL {K0 : Hp} {kk : List Addr} {a : Addr} {vs : List V} {ds : List D} (q : SqL S.K K0 a vs) (r : Dps S K0 kk vs ds) : Walks S (Ite S.K a) (pairsD ds) K0 kk := fun i σ ρ μ H0 H mm ok s p => by
  have q' := sqL_sub (s.trans ok.g.sub) q
  refine ⟨fun d e => ?_, fun h => ⟨vs, q', by rw [r.length, ← pairs_len]; exact h⟩⟩
  obtain ⟨x, ex, rfl⟩ := pairs_get e
  obtain ⟨v, ev, dv⟩ := r.get ex
  refine ⟨⟨vs, v, q', ev⟩, fun y H2 z => ?_⟩
  obtain ⟨T, x', rfl, hT, rfl, z⟩ := z
  have ex := z vs q'
  rw [ev] at ex
  cases ex
  exact pair_ok ok hT (Dp.mono s p x dv)
theorem walks_enumT {K0 : Hp} {kk : List Addr} {a : Addr} {vs : List V} {ds : List D} (q : SqT S.K K0 a vs) (r : Dps S K0 kk vs ds) : Walks S (ItT S.K a) (pairsD ds) K0 kk := fun i σ ρ μ H0 H mm ok s p => by
  have q' := sqT_sub (s.trans ok.g.sub) q
  refine ⟨fun d e => ?_, fun h => ⟨vs, q', by rw [r.length, ← pairs_len]; exact h⟩⟩
  obtain ⟨x, ex, rfl⟩ := pairs_get e
  obtain ⟨v, ev, dv⟩ := r.get ex
  refine ⟨⟨vs, v, q', ev⟩, fun y H2 z => ?_⟩
  obtain ⟨T, x', rfl, hT, rfl, z⟩ := z
  have ex := z vs q'
  rw [ev] at ex
  cases ex
  exact pair_ok ok hT (Dp.mono s p x dv)
theorem i_enm (hK : X.K = S.K) (hg : Gl X "enumerate") (hm : X.mg "enumerate" = none) (ha : PA X [e] (ra S W t)) (hs : starEach [e] X.env = [(false, eval e X.env)] := by rfl) : PI X (.Tuple elts kk tpos) (.Call (.Name "enumerate" p) [e] [] pos) (ri S W (iEnm t)) := by
  refine PI.weak (pi_enumA hg hm ha hs) fun σ H R h => ?_
  rw [hK]
  refine rd_mono (rk_push (k := knA S) stay0 (rk_start h)) fun vs H1 h1 => rk_go h1 fun G H0 mm ρ μ a pa ok en => ?_
  obtain ⟨_, ds⟩ := a
  obtain ⟨_, dv⟩ := pa
  have dv : Dps S H0 mm vs ds := dv
  replace en : EndK W (knI S) H0 H1 mm σ ρ R (iEnmV ds ρ μ) := en
  unfold iEnmV at en
  cases hs : sq1 ds with
  | none => rw [hs] at en; exact en.elim
  | some xs =>
    rw [hs] at en
    obtain ⟨a, ws, rfl, dd, q | q⟩ := sq1_rel hs dv
    · exact ⟨a, rfl, .inl ⟨⟨ws, sqL_sub ok.g.sub q⟩, en _ H0 H1 mm ok .refl .refl .refl (walks_enumL q dd)⟩⟩
    · exact ⟨a, rfl, .inr ⟨⟨ws, sqT_sub ok.g.sub q⟩, en _ H0 H1 mm ok .refl .refl .refl (walks_enumT q dd)⟩⟩
/-! ### the signs of a text -/
def signsD (x : Str) : List D := x.cps.toList.map fun c => .str ⟨#[c]⟩
theorem walks_str {K0 : Hp} {kk : List Addr} (x : Str) : Walks S (Its x) (signsD x) K0 kk := fun i σ ρ μ H0 H mm ok s p => by
  refine ⟨fun d e => ?_, fun h => ?_⟩
  · unfold signsD at e
    rw [List.getElem?_map] at e
    obtain ⟨c, ec, rfl⟩ := Option.map_eq_some_iff.mp e
    have ec' : x.cps[i]? = some c := by simpa using ec
    refine ⟨(Array.getElem?_eq_some_iff.mp ec').1, fun y H2 z => ?_⟩
    obtain ⟨rfl, c', e2, rfl⟩ := z
    rw [ec'] at e2
    cases e2
    exact ⟨H0, ok, .refl, rfl⟩
  · unfold signsD at h
    rw [List.length_map] at h
    show x.cps.size ≤ i
    simpa using h
/-- what a value's items are -/
def itemsD : D → Option (List D)
  | .lst ds => some ds
  | .scr ds => some ds
  | .tup ds => some ds
  | .str x => some (signsD x)
  | _ => none
def iAnyV : Vl → EF (List D)
  | .val d => (match itemsD d with
    | some ds => ret ds
    | none => stuck)
  | _ => stuck
def iAny (g : EF Vl) : EF (List D) := bnd (gFrz g) iAnyV
def iAll (K : PySem.W.Frag) (tl : TE) : TI := fun σ H R => tl σ H fun x H1 => (∃ a, x = .ref a ∧ (((∃ xs, SqL K H1 a xs) ∧ R (Itl K a) H1) ∨ ((∃ xs, SqT K H1 a xs) ∧ R (Itt K a) H1))) ∨ ∃ z, x = .str z ∧ R (Its z) H1
theorem pi_all {l : Expr} {tl : TE} (hl : PE X l tl) : PI X tg l (iAll X.K tl) := by
  refine ⟨fun pins s σ H R I h => ?_⟩
  refine thn (hl.run pins s σ H _ I h) fun v s1 ⟨x, H1, I1, r1, q1⟩ => ?_
  rcases q1 with ⟨a, e, q⟩ | ⟨z, ez, q⟩
  · subst e
    cases r1
    have fp : ∀ b ∈ [s1.heap.objs.size], FpOk X pins H1 b := fun b hb => by
      have e : b = s1.heap.objs.size := by simpa using hb
      subst e
      exact I1.fpOk (Nat.le_refl _) (I1.hok.fresh (Nat.le_refl _))
    rcases q with ⟨⟨xs, hq⟩, q⟩ | ⟨⟨xs, hq⟩, q⟩
    · obtain ⟨its, rv, p, hz⟩ := I1.list hq
      refine wpAny_pyIter_list p.isList ?_
      exact ⟨s1.heap.objs.size, [s1.heap.objs.size], _, _, H1, rfl, I1.kept (t' := s1.toks) fun b o e => Heap.get?_push_of_some _ e, turn_list a _, ⟨_, Heap.get?_push_size _ rfl, rfl, rfl⟩, fp, q⟩
    · obtain ⟨its, rv, p, hz⟩ := I1.tuple hq
      refine wpAny_pyIter_tuple (show s1.heap.IsTuple a its.toArray from p) ?_
      exact ⟨s1.heap.objs.size, [s1.heap.objs.size], _, _, H1, rfl, I1.kept (t' := s1.toks) fun b o e => Heap.get?_push_of_some _ e, turn_tuple a _, ⟨_, Heap.get?_push_size _ rfl, rfl, rfl⟩, fp, q⟩
  · subst ez
    obtain ⟨t, rfl⟩ := r1
    cases ha : z.cps.all (· < 128)
    · exact wpAny_pyIter_wide ha (pi_one (tk := s1.toks) I1 _ (turn_str _ z t "str_iterator" (.inr rfl)) ⟨_, Heap.get?_push_size _ rfl, rfl, rfl⟩ q)
    · exact wpAny_pyIter_ascii ha (pi_one (tk := s1.toks) I1 _ (turn_str _ z t "str_ascii_iterator" (.inl rfl)) ⟨_, Heap.get?_push_size _ rfl, rfl, rfl⟩ q)
theorem i_any (hK : X.K = S.K) (he : PE X e (rd S W g)) : PI X tg e (ri S W (iAny g)) := by
  refine PI.weak (pi_all (e_frz he)) fun σ H R h => ?_
  refine rd_mono (rk_push (k := knV S) stay0 (rk_start h)) fun v H1 h1 => rk_go h1 fun G H0 mm ρ μ a pa ok en => ?_
  obtain ⟨_, x⟩ := a
  have vx : VlOk S G H0 H1 mm σ ρ v x := pa.2
  rw [hK]
  cases x with
  | frs d => exact en.elim
  | slt i => exact en.elim
  | val d =>
    cases d with
    | lst ds =>
      obtain ⟨a, vs, rfl, q, r⟩ := vx
      exact .inl ⟨a, rfl, .inl ⟨⟨vs, sqL_sub ok.g.sub (SqL.of q)⟩, en _ H0 H1 mm ok .refl .refl .refl (walks_list (SqL.of q) r)⟩⟩
    | scr ds =>
      obtain ⟨a, vs, rfl, q, r⟩ := vx
      exact .inl ⟨a, rfl, .inl ⟨⟨vs, sqL_sub ok.g.sub q⟩, en _ H0 H1 mm ok .refl .refl .refl (walks_list q r)⟩⟩
    | tup ds =>
      obtain ⟨a, vs, rfl, q, r⟩ := vx
      exact .inl ⟨a, rfl, .inr ⟨⟨vs, sqT_sub ok.g.sub q⟩, en _ H0 H1 mm ok .refl .refl .refl (walks_tup q r)⟩⟩
    | str z => exact .inr ⟨z, vx, en _ H0 H1 mm ok .refl .refl .refl (walks_str z)⟩
    | _ => exact en.elim
end
end DL
set_option maxRecDepth 100000
set_option maxHeartbeats 2000000
/-! +, *, -, slices. -/
namespace DL
open PySem PySem.Spec L2 NdefX

/-! ### + -/
def hAdd : D → D → EF Vl
  | .int i, .int j, ρ, μ => .ok (.val (.int (i + j))) ρ μ
  | .str a, .str b, ρ, μ => if a.length + b.length ≤ sizeLine then .ok (.val (.str (a ++ b))) ρ μ else .no
  | .lst xs, .lst ys, ρ, μ => if xs.length + ys.length ≤ sizeLine then .ok (.frs (.lst (xs ++ ys))) ρ μ else .no
  | .tup xs, .tup ys, ρ, μ => if xs.length + ys.length ≤ sizeLine then .ok (.val (.tup (xs ++ ys))) ρ μ else .no
  | _, _, _, _ => .no
def rAddS : R2 := fun x y H Q => ∃ i j, x = .str i ∧ y = .str j ∧ i.length + j.length ≤ sizeLine ∧ Q (.str (i ++ j)) H
def rAdds (K : PySem.W.Frag) : R2 := fun x y H Q => (rI0 (fun i j => .int (i + j)) x y H Q ∨ rAddS x y H Q) ∨ (rCat x y H Q ∨ rCatA K x y H Q)
section
variable {S : Sta} {W : WX} {X : Cx} {a b : Expr} {ga gb : EF Vl} {pos : Pos}
theorem op_adds : OpR X (binaryOp .Add) (rAdds X.K) := OpR.or (OpR.or op_add op_add_str) (OpR.or op_cat op_catA)
theorem Dps.nil_iff {H0 : Hp} {mm : List Addr} {ds : List D} {vs : List V} (h : Dps S H0 mm vs ds) : vs = [] ↔ ds = [] := by
  have z := h.length
  constructor
  · intro e; rw [e] at z; exact List.eq_nil_of_length_eq_zero z.symm
  · intro e; rw [e] at z; exact List.eq_nil_of_length_eq_zero z
theorem k_adds : K2 S W (rAdds S.K) hAdd := fun x y dx dy H0 H mm μ σ ρ Q ok rx ry en => by
  cases dx with
  | int i =>
    cases dy with
    | int j => exact .inl (.inl ⟨i, j, rx, ry, fin_val ok en rfl⟩)
    | _ => exact en.no.elim
  | str i =>
    cases dy with
    | str j =>
      replace en : Fin S W H0 H mm σ ρ Q (if i.length + j.length ≤ sizeLine then .ok (.val (.str (i ++ j))) ρ μ else .no) := en
      by_cases h : i.length + j.length ≤ sizeLine
      · rw [if_pos h] at en
        exact .inl (.inr ⟨i, j, rx, ry, h, fin_val ok en rfl⟩)
      · rw [if_neg h] at en; exact en.no.elim
    | _ => exact en.no.elim
  | lst xs =>
    cases dy with
    | lst ys =>
      replace en : Fin S W H0 H mm σ ρ Q (if xs.length + ys.length ≤ sizeLine then .ok (.frs (.lst (xs ++ ys))) ρ μ else .no) := en
      by_cases h : xs.length + ys.length ≤ sizeLine
      · rw [if_pos h] at en
        obtain ⟨a, vs, rfl, q, r⟩ := rx
        obtain ⟨b, ws, rfl, q2, r2⟩ := ry
        exact .inr (.inl ⟨a, b, vs, ws, rfl, rfl, q, q2, by rw [r.length, r2.length]; exact h, fun p hp => fin_lst ok en (r.append r2) hp⟩)
      · rw [if_neg h] at en; exact en.no.elim
    | _ => exact en.no.elim
  | tup xs =>
    cases dy with
    | tup ys =>
      replace en : Fin S W H0 H mm σ ρ Q (if xs.length + ys.length ≤ sizeLine then .ok (.val (.tup (xs ++ ys))) ρ μ else .no) := en
      by_cases h : xs.length + ys.length ≤ sizeLine
      · rw [if_pos h] at en
        have rx0 := rx
        have ry0 := ry
        obtain ⟨a, vs, rfl, q, r⟩ := rx
        obtain ⟨b, ws, rfl, q2, r2⟩ := ry
        refine .inr (.inr ⟨a, b, vs, ws, rfl, rfl, sqT_sub ok.g.sub q, sqT_sub ok.g.sub q2, by rw [r.length, r2.length]; exact h, fun e => ?_, fun _ e => ?_, fun _ _ p hp => fin_tup ok en (r.append r2) hp⟩)
        · have e2 := r.nil_iff.mp e
          subst e2
          exact fin_val ok en ry0
        · have e2 := r2.nil_iff.mp e
          subst e2
          rw [List.append_nil] at en
          exact fin_val ok en rx0
      · rw [if_neg h] at en; exact en.no.elim
    | _ => exact en.no.elim
  | _ => exact en.no.elim
theorem e_adds (hK : X.K = S.K) (ha : PE X a (rd S W ga)) (hb : PE X b (rd S W gb)) : PE X (.BinOp a .Add b pos) (rd S W (g2 hAdd ga gb)) := e_op op_adds (by rw [hK]; exact k_adds) ha hb
end

/-! ### * -/
def repD (k : Nat) (xs : List D) : List D := (List.replicate k xs).flatten
def hMul : D → D → EF Vl
  | .int i, .int j, ρ, μ => if mulOk i j = true then .ok (.val (.int (i * j))) ρ μ else .no
  | .lst xs, .int k, ρ, μ => if -(2 ^ 63) ≤ k ∧ k < 2 ^ 63 ∧ xs.length * k.toNat ≤ sizeLine then .ok (.frs (.lst (repD k.toNat xs))) ρ μ else .no
  | .tup xs, .int k, ρ, μ => if xs ≠ [] ∧ 2 ≤ k ∧ k ≤ 1000 ∧ xs.length ≤ 1000 then .ok (.val (.tup (repD k.toNat xs))) ρ μ else .no
  | _, _, _, _ => .no
def rMuls (K : PySem.W.Frag) : R2 := fun x y H Q => (rI CMul (fun i j => .int (i * j)) x y H Q ∨ rRep x y H Q) ∨ rRepT K x y H Q
section
variable {S : Sta} {W : WX} {X : Cx} {a b : Expr} {ga gb : EF Vl} {pos : Pos}
theorem op_muls : OpR X (binaryOp .Mult) (rMuls X.K) := OpR.or (OpR.or op_mul op_rep) op_repT
theorem Dps.rep {H0 : Hp} {mm : List Addr} {ds : List D} {vs : List V} (h : Dps S H0 mm vs ds) : ∀ k : Nat, Dps S H0 mm (List.replicate k vs).flatten (repD k ds)
  | 0 => rfl
  | k + 1 => by
    unfold repD
    rw [List.replicate_succ, List.replicate_succ, List.flatten_cons, List.flatten_cons]
    exact h.append (Dps.rep h k)
theorem k_muls : K2 S W (rMuls S.K) hMul := fun x y dx dy H0 H mm μ σ ρ Q ok rx ry en => by
  cases dy with
  | int k =>
    cases dx with
    | int i =>
      replace en : Fin S W H0 H mm σ ρ Q (if mulOk i k = true then .ok (.val (.int (i * k))) ρ μ else .no) := en
      by_cases h : mulOk i k = true
      · rw [if_pos h] at en
        refine .inl (.inl ⟨i, k, rx, ry, ?_, fin_val ok en rfl⟩)
        unfold mulOk at h
        unfold CMul
        simpa only [Bool.or_eq_true, Bool.and_eq_true, decide_eq_true_eq] using h
      · rw [if_neg h] at en; exact en.no.elim
    | lst xs =>
      replace en : Fin S W H0 H mm σ ρ Q (if -(2 ^ 63) ≤ k ∧ k < 2 ^ 63 ∧ xs.length * k.toNat ≤ sizeLine then .ok (.frs (.lst (repD k.toNat xs))) ρ μ else .no) := en
      by_cases h : -(2 ^ 63) ≤ k ∧ k < 2 ^ 63 ∧ xs.length * k.toNat ≤ sizeLine
      · rw [if_pos h] at en
        obtain ⟨a, vs, rfl, q, r⟩ := rx
        exact .inl (.inr ⟨a, k, vs, rfl, ry, q, h.1, h.2.1, by rw [r.length]; exact h.2.2, fun p hp => fin_lst ok en (r.rep _) hp⟩)
      · rw [if_neg h] at en; exact en.no.elim
    | tup xs =>
      replace en : Fin S W H0 H mm σ ρ Q (if xs ≠ [] ∧ 2 ≤ k ∧ k ≤ 1000 ∧ xs.length ≤ 1000 then .ok (.val (.tup (repD k.toNat xs))) ρ μ else .no) := en
      by_cases h : xs ≠ [] ∧ 2 ≤ k ∧ k ≤ 1000 ∧ xs.length ≤ 1000
      · rw [if_pos h] at en
        obtain ⟨a, vs, rfl, q, r⟩ := rx
        exact .inr ⟨a, k, vs, rfl, ry, sqT_sub ok.g.sub q, fun z => h.1 (r.nil_iff.mp z), h.2.1, h.2.2.1, by rw [r.length]; exact h.2.2.2, fun p hp => fin_tup ok en (r.rep _) hp⟩
      · rw [if_neg h] at en; exact en.no.elim
    | _ => exact en.no.elim
  | _ => cases dx <;> exact en.no.elim
theorem e_muls (hK : X.K = S.K) (ha : PE X a (rd S W ga)) (hb : PE X b (rd S W gb)) : PE X (.BinOp a .Mult b pos) (rd S W (g2 hMul ga gb)) := e_op op_muls (by rw [hK]; exact k_muls) ha hb
/-! ### - -/
def hNeg : D → EF Vl
  | .int i, ρ, μ => .ok (.val (.int (-i))) ρ μ
  | _, _, _ => .no
theorem k_neg : K1 S W (rU fun i => .int (-i)) hNeg := fun x dx H0 H mm μ σ ρ Q ok rx en => by
  cases dx with
  | int i => exact ⟨i, rx, fin_val ok en rfl⟩
  | _ => exact en.no.elim
theorem e_neg (ha : PE X a (rd S W ga)) : PE X (.UnaryOp .USub a pos) (rd S W (g1 hNeg ga)) := e_un un_neg k_neg ha
end

/-! ### slices -/
def knO (S : Sta) : Knd S (Option Int) (Option Int) := ⟨fun _ _ _ _ _ _ v x => v = x, fun _ _ _ h => h, fun _ h => h⟩
abbrev ro (S : Sta) (W : WX) (g : EF (Option Int)) : St → Hp → (Option Int → Hp → Prop) → Prop := rdK W (knO S) g
def pNone : EF (Option Int) := ret none
def pSomeV : D → EF (Option Int)
  | .int i => ret (some i)
  | _ => stuck
def pSome (g : EF Vl) : EF (Option Int) := bnd g fun x => fun ρ μ => match con μ ρ x with
  | some d => pSomeV d ρ μ
  | none => .no
def cutD (ds : List D) (lo hi : Option Int) : List D := (ds.drop (HT.sIx ds.length 0 lo)).take (HT.sIx ds.length ds.length hi - HT.sIx ds.length 0 lo)
def hSl (lo hi : Option Int) : D → EF Vl
  | .lst ds => ret (.frs (.lst (cutD ds lo hi)))
  | .scr ds => ret (.frs (.lst (cutD ds lo hi)))
  | .tup ds => ret (.val (.tup (cutD ds lo hi)))
  | .str z => if z.length ≤ sizeLine then ret (.val (.str (Txt.slice z lo hi))) else stuck
  | _ => stuck
def gSl (g : EF Vl) (lo hi : EF (Option Int)) : EF Vl := bnd g fun x => bnd lo fun l => bnd hi fun h => fun ρ μ => match con μ ρ x with
  | some d => hSl l h d ρ μ
  | none => .no
def rSls (K : PySem.W.Frag) : V → Option Int → Option Int → Hp → VK → Prop := fun x lo hi H Q => (rSlL K x lo hi H Q ∨ rSlA K x lo hi H Q) ∨ C8.rSlX x lo hi H Q
section
variable {S : Sta} {W : WX} {X : Cx} {e l h : Expr} {g gl gh : EF Vl} {lo hi : EF (Option Int)} {pl ph : Option Expr} {pos p2 : Pos}
theorem sl_any : SlR X (rSls X.K) := L2.SlR.or (L2.SlR.or sl_list sl_tupA) C8.sl_txt
theorem o_none : PO X none (ro S W pNone) := by
  refine ⟨fun pins s σ H Q I h => po_none.run pins s σ H Q I ?_⟩
  obtain ⟨H0, mm, ρ, μ, ok, en⟩ := h
  exact en none H0 H mm ok .refl .refl .refl rfl
theorem o_some (he : PE X e (rd S W g)) : PO X (some e) (ro S W (pSome g)) := by
  refine ⟨fun pins s σ H Q I h => (po_some he).run pins s σ H Q I ?_⟩
  refine rd_mono (rk_push (k := knV S) stay0 (rk_start h)) fun v H1 h1 => rk_go h1 fun G H0 mm ρ μ a pa ok en => ?_
  obtain ⟨_, x⟩ := a
  have vx : VlOk S G H0 H1 mm σ ρ v x := pa.2
  replace en : EndK W (knO S) H0 H1 mm σ ρ Q (match con μ ρ x with
    | some d => pSomeV d ρ μ
    | none => .no) := en
  cases c : con μ ρ x with
  | none => rw [c] at en; exact en.elim
  | some d =>
    rw [c] at en
    have rx := vx.rdd ok c
    cases d with
    | int i => exact ⟨i, rx, en (some i) H0 H1 mm ok .refl .refl .refl rfl⟩
    | _ => exact en.elim
theorem Dps.cut {H0 : Hp} {mm : List Addr} {ds : List D} {vs : List V} (h : Dps S H0 mm vs ds) (lo hi : Option Int) : Dps S H0 mm (cutV vs lo hi) (cutD ds lo hi) := by
  unfold cutV cutD
  rw [h.length]
  exact (h.drop _).take _
theorem e_sl (hK : X.K = S.K) (he : PE X e (rd S W g)) (hl : PO X pl (ro S W lo)) (hh : PO X ph (ro S W hi)) : PE X (.Subscript e (.Slice pl ph none p2) pos) (rd S W (gSl g lo hi)) := by
  refine PE.weak (pe_slice sl_any he hl hh) fun σ H Q h => ?_
  refine rd_mono (rk_push (k := knV S) stay0 (rk_start h)) fun v H1 h1 => rd_mono (rk_push (k := knO S) (stayV stay0) h1) fun ol H2 h2 => rd_mono (rk_push (k := knO S) (stayV (stayV stay0)) h2) fun oh H3 h3 => ?_
  obtain ⟨H0p, Hp, mmp, ρp, H0, mm, ρ, μ, ⟨⟨⟨_, x⟩, yl⟩, yh⟩, ok, nx, ow, ho, ⟨⟨⟨_, vx⟩, vl⟩, vh⟩, en⟩ := h3
  have vx : VlOk S Hp H0 H3 mm σ ρ v x := vx
  obtain rfl : ol = yl := vl
  obtain rfl : oh = yh := vh
  replace en : Fin S W H0 H3 mm σ ρ Q (match con μ ρ x with
    | some d => hSl ol oh d ρ μ
    | none => .no) := ⟨H0p, Hp, mmp, ρp, nx, ow, ho, en⟩
  rw [hK]
  cases c : con μ ρ x with
  | none => rw [c] at en; exact en.no.elim
  | some d =>
    rw [c] at en
    have rx := vx.rdd ok c
    cases d with
    | lst ds =>
      obtain ⟨a, vs, rfl, q, r⟩ := rx
      exact .inl (.inl ⟨a, vs, rfl, SqL.of q, fun p hp => fin_lst ok en (r.cut _ _) hp⟩)
    | scr ds =>
      obtain ⟨a, vs, rfl, q, r⟩ := rx
      exact .inl (.inl ⟨a, vs, rfl, sqL_sub ok.g.sub q, fun p hp => fin_lst ok en (r.cut _ _) hp⟩)
    | tup ds =>
      have rx0 := rx
      obtain ⟨a, vs, rfl, q, r⟩ := rx
      refine .inl (.inr ⟨a, vs, rfl, sqT_sub ok.g.sub q, fun hw => ?_, fun _ p hp => fin_tup ok en (r.cut _ _) hp⟩)
      have e : cutD ds ol oh = ds := by
        unfold cutD
        rw [r.length] at hw
        rw [hw.1, hw.2, List.drop_zero, Nat.sub_zero, List.take_length]
      replace en : Fin S W H0 H3 mm σ ρ Q (.ok (.val (.tup (cutD ds ol oh))) ρ μ) := en
      rw [e] at en
      exact fin_val ok en rx0
    | str z =>
      replace en : Fin S W H0 H3 mm σ ρ Q ((if z.length ≤ sizeLine then ret (.val (.str (Txt.slice z ol oh))) else stuck : EF Vl) ρ μ) := en
      by_cases h : z.length ≤ sizeLine
      · rw [if_pos h] at en
        exact .inr ⟨z, rx, h, fin_val ok en rfl⟩
      · rw [if_neg h] at en; exact en.no.elim
    | _ => exact en.no.elim
end
end DL
set_option maxRecDepth 100000
set_option maxHeartbeats 2000000
/-! Lists that change: methods, stores. Methods of texts. Several names at once. -/
namespace DL
open PySem PySem.Spec L2 NdefX

/-! ### a list is written -/
def mutO (i : Nat) (f : List D → Option (List D)) (ρ : Env) (μ : Mu) : Option Sl → R Unit
  | some (.ow (.lst ds)) => (match f ds with
    | some ds' => .ok () (ρ.set i (.ow (.lst ds'))) μ
    | none => .no)
  | _ => .no
def mutM (k : Nat) (f : List D → Option (List D)) (ρ : Env) (μ : Mu) : Option MO → R Unit
  | some (.lst ds) => (match f ds with
    | some ds' => .ok () ρ (μ.set k (.lst ds'))
    | none => .no)
  | _ => .no
/-- the list that x is, written by f -/
def mutL (f : List D → Option (List D)) : Vl → EF Unit
  | .slt i, ρ, μ => mutO i f ρ μ ρ[i]?
  | .val (.mrf k), ρ, μ => mutM k f ρ μ μ[k]?
  | _, _, _ => .no
section
variable {S : Sta} {H0 H : Hp} {mm : List Addr} {μ : Mu} {σ : St} {ρ : Env} {v : V} {G : Hp}
theorem Nx.write {O : Addr → Prop} {a : Addr} {o u : HO} (e : H a = some o) (ha : O a ∨ a ∈ mm) : Nx O H0 H mm H0 (upd H a u) mm := by
  refine ⟨.refl, fun _ _ _ => rfl, fun b w eb hm no _ => ?_, fun b h => ?_, [], by simp, by simp⟩
  · rw [upd_ne]
    · exact eb
    · intro z
      rw [z] at hm no
      exact ha.elim no hm
  · by_cases hb : b = a
    · rw [hb, upd_same]; simp
    · rw [upd_ne hb]; exact h
theorem Ok.put_own {i : Nat} {a : Addr} {ds ds' : List D} {vs vs' : List V} (ok : Ok S H0 H mm μ σ ρ) (e : ρ[i]? = some (.ow (.lst ds))) (es : σ[i]? = some (some (.ref a))) (ea : H a = some (.lst vs)) (dv : Dps S H0 mm vs' ds') :
    Ok S H0 (upd H a (.lst vs')) mm μ σ (ρ.set i (.ow (.lst ds'))) ∧ Nx (Own σ ρ) H0 H mm H0 (upd H a (.lst vs')) mm ∧ OwN H (Own σ ρ) (Own σ (ρ.set i (.ow (.lst ds')))) ∧ Hold ρ (ρ.set i (.ow (.lst ds'))) := by
  obtain ⟨b, eb, n0, nm, q⟩ := ok.e.at_ i _ e
  rw [es] at eb
  cases eb
  have hi := (List.getElem?_eq_some_iff.mp e).1
  have ow1 : ∀ {j : Nat} {d' : D}, (ρ.set i (.ow (.lst ds')))[j]? = some (.ow d') → ∃ d2, ρ[j]? = some (.ow d2) := fun {j d'} z => by
    rcases set_cases z with ⟨rfl, _, _⟩ | ⟨_, z⟩
    · exact ⟨_, e⟩
    · exact ⟨_, z⟩
  refine ⟨⟨⟨fun c o ec => ?_, ⟨ok.g.mu.len, ok.g.mu.nd, fun k c m e1 e2 => (ok.g.mu.at_ k c m e1 e2).mono .refl .refl (upd_ne fun z => nm (by rw [← z]; exact List.mem_of_getElem? e1)), ok.g.mu.h0⟩, tabs_put ok.g.tab ea (fun _ z => by cases z) (fun _ _ z => by unfold LamX.CodeO at z; cases z), ok.g.nt⟩, by rw [List.length_set]; exact ok.e.len, fun j s ej => ?_, fun j k c d1 d2 hjk e1 e2 f1 f2 => ?_⟩, Nx.write ea (.inl ⟨i, _, e, es⟩), fun c hc => ?_, hold_set fun z => by cases z⟩
  · rw [upd_ne fun z => by rw [z, n0] at ec; cases ec]
    exact ok.g.sub _ _ ec
  · rcases set_cases ej with ⟨rfl, rfl, _⟩ | ⟨hj, ej⟩
    · exact ⟨a, es, n0, nm, vs', upd_same, dv⟩
    · have q2 := ok.e.at_ j s ej
      cases s with
      | un => trivial
      | fz d => exact q2
      | ow d =>
        obtain ⟨b, eb, m0, nm2, q2⟩ := q2
        refine ⟨b, eb, m0, nm2, q2.mono .refl .refl (upd_ne fun z => ?_)⟩
        exact ok.e.sep i j a _ d (Ne.symm hj) e ej es (by rw [← z]; exact eb)
  · obtain ⟨d3, z1⟩ := ow1 e1
    obtain ⟨d4, z2⟩ := ow1 e2
    exact ok.e.sep j k c d3 d4 hjk z1 z2 f1 f2
  · obtain ⟨j, d, e1, e2⟩ := hc
    obtain ⟨d3, z1⟩ := ow1 e1
    exact .inl ⟨j, d3, z1, e2⟩
theorem Ok.put_mu {k : Nat} {a : Addr} {ds ds' : List D} {vs vs' : List V} (ok : Ok S H0 H mm μ σ ρ) (e : mm[k]? = some a) (em : μ[k]? = some (.lst ds)) (ea : H a = some (.lst vs)) (dv : Dps S H0 mm vs' ds') :
    Ok S H0 (upd H a (.lst vs')) mm (μ.set k (.lst ds')) σ ρ ∧ Nx (Own σ ρ) H0 H mm H0 (upd H a (.lst vs')) mm := by
  have ha := List.mem_of_getElem? e
  have n0 := ok.g.mu.h0 a ha
  refine ⟨⟨⟨fun c o ec => ?_, ⟨by rw [List.length_set]; exact ok.g.mu.len, ok.g.mu.nd, fun j c m e1 e2 => ?_, ok.g.mu.h0⟩, tabs_put ok.g.tab ea (fun _ z => by cases z) (fun _ _ z => by unfold LamX.CodeO at z; cases z), ok.g.nt⟩, ok.e.len, fun j s ej => ?_, ok.e.sep⟩, Nx.write ea (.inr ha)⟩
  · rw [upd_ne fun z => by rw [z, n0] at ec; cases ec]
    exact ok.g.sub _ _ ec
  · rcases set_cases e2 with ⟨rfl, rfl, _⟩ | ⟨hj, e2⟩
    · rw [e] at e1
      cases e1
      exact ⟨vs', upd_same, dv⟩
    · refine (ok.g.mu.at_ j c m e1 e2).mono .refl .refl (upd_ne fun z => hj ?_)
      rw [z] at e1
      have z1 := (List.getElem?_eq_some_iff.mp e1).1
      exact (List.getElem?_inj z1 ok.g.mu.nd).mp (e1.trans e.symm)
  · have q2 := ok.e.at_ j s ej
    cases s with
    | un => trivial
    | fz d => exact q2
    | ow d =>
      obtain ⟨b, eb, m0, nm2, q2⟩ := q2
      exact ⟨b, eb, m0, nm2, q2.mono .refl .refl (upd_ne fun z => nm2 (by rw [z]; exact ha))⟩
/-- the list that x is -/
theorem mut_go {x : Vl} {f : List D → Option (List D)} {ρ' : Env} {μ' : Mu} (ok : Ok S H0 H mm μ σ ρ) (va : VlOk S G H0 H mm σ ρ v x) (e : mutL f x ρ μ = .ok () ρ' μ') :
    ∃ a vs ds ds', v = .ref a ∧ H a = some (.lst vs) ∧ Dps S H0 mm vs ds ∧ f ds = some ds' ∧ ∀ vs', Dps S H0 mm vs' ds' →
      Ok S H0 (upd H a (.lst vs')) mm μ' σ ρ' ∧ Nx (Own σ ρ) H0 H mm H0 (upd H a (.lst vs')) mm ∧ OwN H (Own σ ρ) (Own σ ρ') ∧ Hold ρ ρ' := by
  cases x with
  | frs d => cases e
  | slt i =>
    obtain ⟨es, s, e1, e2⟩ := va
    replace e : mutO i f ρ μ ρ[i]? = .ok () ρ' μ' := e
    rw [e1] at e
    cases s with
    | un => cases e
    | fz d => cases e
    | ow d =>
      cases d with
      | lst ds =>
        replace e : (match f ds with
          | some ds' => R.ok () (ρ.set i (.ow (.lst ds'))) μ
          | none => .no) = .ok () ρ' μ' := e
        cases q : f ds with
        | none => rw [q] at e; cases e
        | some ds' =>
          rw [q] at e
          cases e
          obtain ⟨a, ev, _, _, vs, ea, dv⟩ := ok.e.at_ i _ e1
          rw [es] at ev
          cases ev
          exact ⟨a, vs, ds, ds', rfl, ea, dv, q, fun vs' dv' => ok.put_own e1 es ea dv'⟩
      | _ => cases e
  | val d =>
    cases d with
    | mrf k =>
      obtain ⟨a, ea, rfl⟩ := va
      replace e : mutM k f ρ μ μ[k]? = .ok () ρ' μ' := e
      cases em : μ[k]? with
      | none => rw [em] at e; cases e
      | some m =>
        rw [em] at e
        cases m with
        | ins C fs => cases e
        | lst ds =>
          replace e : (match f ds with
            | some ds' => R.ok () ρ (μ.set k (.lst ds'))
            | none => .no) = .ok () ρ' μ' := e
          cases q : f ds with
          | none => rw [q] at e; cases e
          | some ds' =>
            rw [q] at e
            cases e
            obtain ⟨vs, eh, dv⟩ := ok.g.mu.at_ k a _ ea em
            refine ⟨a, vs, ds, ds', rfl, eh, dv, q, fun vs' dv' => ?_⟩
            obtain ⟨z1, z2⟩ := ok.put_mu ea em eh dv'
            exact ⟨z1, z2, .refl, .refl⟩
    | _ => cases e
end
end DL
set_option maxRecDepth 100000
set_option maxHeartbeats 2000000
/-! Methods of built-in types, calls of built-ins, stores into lists, several names at once. -/
namespace DL
open PySem PySem.Spec L2 NdefX

/-! ### methods -/
def tagD : D → String
  | .str _ => "str"
  | .int _ => "int"
  | .lst _ => "list"
  | .scr _ => "list"
  | .dic _ _ => "dict"
  | _ => ""
def gMeth (T : String) (hm : Vl → List D → EF Vl) (g : EF Vl) (t : EF (List D)) : EF Vl := bnd g fun x => fun ρ μ => match con μ ρ x with
  | some d => if tagD d = T ∧ T ≠ "" then bnd t (hm x) ρ μ else .no
  | none => .no
/-- what a method asks, told of data -/
def KM (S : Sta) (W : WX) (r : V → List V → Hp → VK → Prop) (hm : Vl → List D → EF Vl) : Prop := ∀ (v : V) (xs : List V) (x : Vl) (ds : List D) (G H0 H : Hp) (mm : List Addr) (μ : Mu) (σ : St) (ρ : Env) (Q : VK),
  Ok S H0 H mm μ σ ρ → VlOk S G H0 H mm σ ρ v x → Dps S H0 mm xs ds → Fin S W H0 H mm σ ρ Q (hm x ds ρ μ) → r v xs H Q
/-- by the datum -/
def byD (h : D → List D → EF Vl) (x : Vl) (ds : List D) : EF Vl := fun ρ μ => match con μ ρ x with
  | some d => h d ds ρ μ
  | none => .no
section
variable {S : Sta} {W : WX} {X : Cx} {o e : Expr} {es : List Expr} {g : EF Vl} {t : EF (List D)} {name : Str} {apos cpos : Pos} {T id : String} {r : V → List V → Hp → VK → Prop} {hm : Vl → List D → EF Vl}
theorem KM.of {h : D → List D → EF Vl} (k : ∀ (v : V) (xs : List V) (d : D) (ds : List D) (H0 H : Hp) (mm : List Addr) (μ : Mu) (σ : St) (ρ : Env) (Q : VK), Ok S H0 H mm μ σ ρ → Rdd S H0 H mm v d → Dps S H0 mm xs ds → Fin S W H0 H mm σ ρ Q (h d ds ρ μ) → r v xs H Q) : KM S W r (byD h) :=
  fun v xs x ds G H0 H mm μ σ ρ Q ok va dv en => by
    unfold byD at en
    cases c : con μ ρ x with
    | none => rw [c] at en; exact en.no.elim
    | some d => rw [c] at en; exact k v xs d ds H0 H mm μ σ ρ Q ok (va.rdd ok c) dv en
theorem tag_ty {H0 H : Hp} {mm : List Addr} {μ : Mu} {σ : St} {ρ : Env} {v : V} {d : D} (ok : Ok S H0 H mm μ σ ρ) (rx : Rdd S H0 H mm v d) (e : tagD d = T) (ne : T ≠ "") : tyV S.K T v H := by
  subst e
  cases d with
  | str z => obtain rfl : v = .str z := rx; rfl
  | int z => obtain rfl : v = .int z := rx; rfl
  | lst ds => obtain ⟨a, vs, rfl, q, _⟩ := rx; exact .inl ⟨rfl, vs, SqL.of q⟩
  | scr ds => obtain ⟨a, vs, rfl, q, _⟩ := rx; exact .inl ⟨rfl, vs, sqL_sub ok.g.sub q⟩
  | dic ks vs => obtain ⟨a, kvs, rfl, q, _⟩ := rx; exact .inr (.inr (.inl ⟨rfl, .inl ⟨kvs, q⟩⟩))
  | _ => exact absurd rfl ne
theorem t_meth (k : KM S W r hm) {σ : St} {H : Hp} {Q : VK} (h : rd S W (gMeth T hm g t) σ H Q) : tBM S.K T r (rd S W g) (ra S W t) σ H Q := by
  refine rd_mono (rk_push (k := knV S) stay0 (rk_start h)) fun v H1 h1 => ?_
  obtain ⟨H0p, Hp, mmp, ρp, H0, mm, ρ, μ, ⟨u, x⟩, ok, nx, ow, ho, pa, en⟩ := h1
  have vx : VlOk S Hp H0 H1 mm σ ρ v x := pa.2
  replace en : EndV S W H0p Hp mmp σ ρp Q (match con μ ρ x with
    | some d => if tagD d = T ∧ T ≠ "" then bnd t (hm x) ρ μ else .no
    | none => .no) := en
  cases c : con μ ρ x with
  | none => rw [c] at en; exact en.elim
  | some d =>
    rw [c] at en
    replace en : EndV S W H0p Hp mmp σ ρp Q (if tagD d = T ∧ T ≠ "" then bnd t (hm x) ρ μ else .no) := en
    by_cases hT : tagD d = T ∧ T ≠ ""
    · rw [if_pos hT] at en
      refine ⟨tag_ty ok (vx.rdd ok c) hT.1 hT.2, ?_⟩
      have h2 : rk W (knV S) (PVk (knV S) σ P0 v) (fun a : Unit × Vl => bnd t (hm a.2)) σ H1 Q := ⟨H0p, Hp, mmp, ρp, H0, mm, ρ, μ, (u, x), ok, nx, ow, ho, pa, en⟩
      refine rd_mono (rk_push (k := knA S) (stayV stay0) h2) fun xs H2 h3 => ?_
      obtain ⟨H0p, Hp, mmp, ρp, H0, mm, ρ, μ, ⟨⟨_, y⟩, ds⟩, ok, nx, ow, ho, ⟨⟨_, vy⟩, dv⟩, en⟩ := h3
      exact k v xs y ds Hp H0 H2 mm μ σ ρ Q ok vy dv ⟨H0p, Hp, mmp, ρp, nx, ow, ho, en⟩
    · rw [if_neg hT] at en; exact en.elim
theorem e_meth (hK : X.K = S.K) (pa : PlainAttrs T) (slot : Slot T name id) (hty : typeOf (.builtin id) = pure (.type "method_descriptor")) (hr : MtR X id r) (k : KM S W r hm) (ho : PE X o (rd S W g)) (ha : PA X (e :: es) (ra S W t))
    (hbase : attributeBase o name X.env (eval o X.env) = eval o X.env := by rfl)
    (hfew : ((backTo cpos (starEach (e :: es) X.env)).all (fun x => !x.1) && (backToKw cpos (keywordEach [] X.env)).all (fun x => x.1.isSome)
      && decide ((e :: es).length + ([] : List Keyword).length + (if ([] : List Keyword).isEmpty then 0 else 1) < 30)) = true := by rfl)
    (hline : (apos.endLine == cpos.line) = true := by rfl) (hs : starEach (e :: es) X.env = (false, eval e X.env) :: starEach es X.env := by rfl) (hplain : (backTo cpos (starEach es X.env)).any (·.1) = false := by rfl) :
    PE X (.Call (.Attribute o name apos) (e :: es) [] cpos) (rd S W (gMeth T hm g t)) :=
  PE.weak (pe_bm pa slot hty hr ho ha hbase hfew hline hs hplain) fun σ H Q h => by rw [hK]; exact t_meth k h
theorem e_meth0 (hK : X.K = S.K) (pa : PlainAttrs T) (slot : Slot T name id) (hty : typeOf (.builtin id) = pure (.type "method_descriptor")) (hr : MtR X id r) (k : KM S W r hm) (ho : PE X o (rd S W g))
    (hbase : attributeBase o name X.env (eval o X.env) = eval o X.env := by rfl) (hline : (apos.endLine == cpos.line) = true := by rfl) : PE X (.Call (.Attribute o name apos) [] [] cpos) (rd S W (gMeth T hm g aNil)) :=
  PE.weak (pe_bm0 pa slot hty hr ho hbase hline) fun σ H Q h => by
    rw [hK]
    refine rd_mono (t_meth (t := aNil) k h) fun v H1 ⟨z, q⟩ => ⟨z, ?_⟩
    obtain ⟨H0, mm, ρ, μ, ok, en⟩ := q
    exact en [] H0 H1 mm ok .refl .refl .refl rfl
end

/-! ### some methods -/
def strsD (xs : List Str) : List D := xs.map .str
theorem strs_dps {S : Sta} {H0 : Hp} {mm : List Addr} (xs : List Str) : Dps S H0 mm (xs.map V.str) (strsD xs) := by
  induction xs with
  | nil => rfl
  | cons x xs ih => exact ⟨_, _, rfl, rfl, ih⟩
def hSplit : D → List D → EF Vl
  | .str a, [.str b] => if (b.length == 0) = false ∧ a.length + 2 ≤ sizeLine then ret (.frs (.lst (strsD (Txt.split a b)))) else stuck
  | _, _ => stuck
def mAppend (x : Vl) (ds : List D) : EF Vl := match ds with
  | [d] => bnd (mutL (fun l => if l.length < sizeLine then some (l ++ [d]) else none) x) fun _ => ret (.val .non)
  | _ => stuck
section
variable {S : Sta} {W : WX} {X : Cx}
theorem k_split : KM S W (fun x xs H Q => ∃ a b, x = .str a ∧ xs = [.str b] ∧ (b.length == 0) = false ∧ a.length + 2 ≤ sizeLine ∧ rNewStrs (Txt.split a b) H Q) (byD hSplit) := KM.of fun v xs d ds H0 H mm μ σ ρ Q ok rx dv en => by
  unfold hSplit at en
  split at en
  · rename_i a b
    obtain ⟨w, r, rfl, hw, hr⟩ := dv
    cases (show r = [] from hr)
    split at en
    · rename_i hc
      exact ⟨a, b, rx, by rw [show w = .str b from hw], hc.1, hc.2, fun p hp => fin_lst ok en (strs_dps _) hp⟩
    · exact en.no.elim
  · exact en.no.elim
theorem mutL_exc {x : Vl} {f : List D → Option (List D)} {ρ ρ' : Env} {μ μ' : Mu} {y : Exn} (q : mutL f x ρ μ = .exc y ρ' μ') : False := by
  cases x with
  | frs d => cases q
  | slt i =>
    replace q : mutO i f ρ μ ρ[i]? = .exc y ρ' μ' := q
    unfold mutO at q
    split at q
    · split at q <;> cases q
    · cases q
  | val d =>
    cases d with
    | mrf k =>
      replace q : mutM k f ρ μ μ[k]? = .exc y ρ' μ' := q
      unfold mutM at q
      split at q
      · split at q <;> cases q
      · cases q
    | _ => cases q
theorem mut_fin {x : Vl} {f : List D → Option (List D)} {G H0 H : Hp} {mm : List Addr} {μ : Mu} {σ : St} {ρ : Env} {Q : VK} {v : V} {k : Unit → EF Vl} (ok : Ok S H0 H mm μ σ ρ) (va : VlOk S G H0 H mm σ ρ v x) (en : Fin S W H0 H mm σ ρ Q (bnd (mutL f x) k ρ μ)) :
    ∃ a vs ds ds', v = .ref a ∧ H a = some (.lst vs) ∧ Dps S H0 mm vs ds ∧ f ds = some ds' ∧ ∃ ρ' μ', ∀ vs', Dps S H0 mm vs' ds' → Ok S H0 (upd H a (.lst vs')) mm μ' σ ρ' ∧ Fin S W H0 (upd H a (.lst vs')) mm σ ρ' Q (k () ρ' μ') := by
  unfold bnd at en
  cases q : mutL f x ρ μ with
  | no => rw [q] at en; exact en.no.elim
  | exc y ρ' μ' =>
    exact (mutL_exc q).elim
  | ok u ρ' μ' =>
    rw [q] at en
    obtain ⟨a, vs, ds, ds', e1, e2, e3, e4, e5⟩ := mut_go ok va q
    refine ⟨a, vs, ds, ds', e1, e2, e3, e4, ρ', μ', fun vs' dv' => ?_⟩
    obtain ⟨ok', nx', ow', ho'⟩ := e5 vs' dv'
    obtain ⟨H0p, Hp, mmp, ρp, n, w, h, en⟩ := en
    exact ⟨ok', H0p, Hp, mmp, ρp, n.trans w nx', OwN.trans n w ow', h.trans ho', en⟩
theorem k_append : KM S W rAppend mAppend := fun v xs x ds G H0 H mm μ σ ρ Q ok va dv en => by
  unfold mAppend at en
  split at en
  · rename_i d
    obtain ⟨w, r, rfl, hw, hr⟩ := dv
    cases (show r = [] from hr)
    obtain ⟨a, vs, ds, ds', e1, e2, e3, e4, ρ', μ', e5⟩ := mut_fin ok va en
    split at e4
    · rename_i hl
      cases e4
      obtain ⟨ok', en'⟩ := e5 (vs ++ [w]) (e3.append ⟨w, [], rfl, hw, rfl⟩)
      exact ⟨a, vs, w, e1, rfl, e2, by rw [e3.length]; exact hl, fin_val ok' en' rfl⟩
    · cases e4
  · exact en.no.elim
end
end DL
set_option maxRecDepth 100000
set_option maxHeartbeats 2000000
/-! Calls of built-ins; stores into lists; several names at once. -/
namespace DL
open PySem PySem.Spec L2 NdefX

/-! ### numbers -/
def absD : D → Option D
  | .int i => some (.int (if i < 0 then -i else i))
  | _ => none
def intD : D → Option D
  | .int i => some (.int i)
  | .bl k => some (.int (if k then 1 else 0))
  | .str a => (PySem.intText? a).bind fun n => if a.length ≤ 640 then some (.int n) else none
  | _ => none
def strD : D → Option D
  | .int i => if i.natAbs.log2 < 1920 then some (.str (toString i)) else none
  | _ => none
def maxD : D → D → Option D
  | .int i, .int j => some (.int (if j > i then j else i))
  | _, _ => none
def minD : D → D → Option D
  | .int i, .int j => some (.int (if j < i then j else i))
  | _, _ => none
def dvmD : D → D → Option D
  | .int i, .int j => if 0 < j ∧ j < 1073741824 then some (.tup [.int (i / j), .int (i % j)]) else none
  | _, _ => none
def h1 (f : D → Option D) (d : D) : EF Vl := okD (f d)
def h2 (f : D → D → Option D) (a b : D) : EF Vl := okD (f a b)
def rInts : List V → Hp → VK → Prop := fun xs H Q => ((∃ i, xs = [.int i] ∧ Q (.int i) H) ∨ ∃ k, xs = [.bl k] ∧ Q (.int (if k then 1 else 0)) H) ∨ ∃ a n, xs = [.str a] ∧ PySem.intText? a = some n ∧ a.length ≤ 640 ∧ Q (.int n) H
section
variable {S : Sta} {W : WX} {X : Cx}
theorem call_ints : CallR X (.type "int") rInts := CallR.or call_int1 call_int_str
theorem okD_some {o : Option D} {H0 H : Hp} {mm : List Addr} {μ : Mu} {σ : St} {ρ : Env} {Q : VK} (en : Fin S W H0 H mm σ ρ Q (okD o ρ μ)) : ∃ d, o = some d ∧ Fin S W H0 H mm σ ρ Q (.ok (.val d) ρ μ) := by
  unfold okD at en
  cases o with
  | none => exact en.no.elim
  | some d => exact ⟨d, rfl, en⟩
theorem k_abs : K1 S W (fun x H Q => ∃ i, [x] = [V.int i] ∧ Q (.int (if i < 0 then -i else i)) H) (h1 absD) := fun x dx H0 H mm μ σ ρ Q ok rx en => by
  obtain ⟨d, e, en⟩ := okD_some en
  cases dx with
  | int i => cases e; exact ⟨i, by rw [show x = .int i from rx], fin_val ok en rfl⟩
  | _ => cases e
theorem k_intOf : K1 S W (fun x H Q => rInts [x] H Q) (h1 intD) := fun x dx H0 H mm μ σ ρ Q ok rx en => by
  obtain ⟨d, e, en⟩ := okD_some en
  cases dx with
  | int i => cases e; exact .inl (.inl ⟨i, by rw [show x = .int i from rx], fin_val ok en rfl⟩)
  | bl k => cases e; exact .inl (.inr ⟨k, by rw [show x = .bl k from rx], fin_val ok en rfl⟩)
  | str a =>
    obtain ⟨n, e1, e2⟩ := Option.bind_eq_some_iff.mp (show (PySem.intText? a).bind (fun n => if a.length ≤ 640 then some (D.int n) else none) = some d from e)
    split at e2
    · rename_i hl
      cases e2
      exact .inr ⟨a, n, by rw [show x = .str a from rx], e1, hl, fin_val ok en rfl⟩
    · cases e2
  | _ => cases e
theorem k_strOf : K1 S W (fun x H Q => ∃ i, [x] = [V.int i] ∧ i.natAbs.log2 < 1920 ∧ Q (.str (toString i)) H) (h1 strD) := fun x dx H0 H mm μ σ ρ Q ok rx en => by
  obtain ⟨d, e, en⟩ := okD_some en
  cases dx with
  | int i =>
    replace e : (if i.natAbs.log2 < 1920 then some (D.str (toString i)) else none) = some d := e
    split at e
    · rename_i hl
      cases e
      exact ⟨i, by rw [show x = .int i from rx], hl, fin_val ok en rfl⟩
    · cases e
  | _ => cases e
theorem k_max : K2 S W (fun x y H Q => ∃ i j, [x, y] = [V.int i, V.int j] ∧ Q (.int (if j > i then j else i)) H) (h2 maxD) := fun x y dx dy H0 H mm μ σ ρ Q ok rx ry en => by
  obtain ⟨d, e, en⟩ := okD_some en
  cases dx with
  | int i =>
    cases dy with
    | int j => cases e; exact ⟨i, j, by rw [show x = .int i from rx, show y = .int j from ry], fin_val ok en rfl⟩
    | _ => cases e
  | _ => cases e
theorem k_min : K2 S W (fun x y H Q => ∃ i j, [x, y] = [V.int i, V.int j] ∧ Q (.int (if j < i then j else i)) H) (h2 minD) := fun x y dx dy H0 H mm μ σ ρ Q ok rx ry en => by
  obtain ⟨d, e, en⟩ := okD_some en
  cases dx with
  | int i =>
    cases dy with
    | int j => cases e; exact ⟨i, j, by rw [show x = .int i from rx, show y = .int j from ry], fin_val ok en rfl⟩
    | _ => cases e
  | _ => cases e
theorem k_divmod : K2 S W (fun x y H Q => ∃ i j, [x, y] = [V.int i, V.int j] ∧ CDiv i j ∧ ∀ p, H p = none → Q (.ref p) (upd H p (.tup [.int (i / j), .int (i % j)]))) (h2 dvmD) := fun x y dx dy H0 H mm μ σ ρ Q ok rx ry en => by
  obtain ⟨d, e, en⟩ := okD_some en
  cases dx with
  | int i =>
    cases dy with
    | int j =>
      replace e : (if 0 < j ∧ j < 1073741824 then some (D.tup [.int (i / j), .int (i % j)]) else none) = some d := e
      split at e
      · rename_i hc
        cases e
        exact ⟨i, j, by rw [show x = .int i from rx, show y = .int j from ry], hc, fun p hp => fin_tup ok en ⟨_, _, rfl, rfl, _, _, rfl, rfl, rfl⟩ hp⟩
      · cases e
    | _ => cases e
  | _ => cases e
end

/-! ### a target that is an item of a list -/
def toSubV (d : D) (x y : Vl) : EF Unit := fun ρ μ => match con μ ρ y with
  | some (.int k) => mutL (fun l => (ixN l.length k).map fun j => l.set j d) x ρ μ
  | _ => .no
def toSub (go gi : EF Vl) : TF := fun d => bnd go fun x => bnd gi fun y => toSubV d x y
def knU (S : Sta) : Knd S Unit Unit := ⟨fun _ _ _ _ _ _ _ _ => True, fun _ _ _ h => h, fun _ h => h⟩
section
variable {S : Sta} {W : WX} {X : Cx} {o i : Expr} {go gi : EF Vl} {pos : Pos}
theorem g_sub (ho : PE X o (rd S W0 go)) (hi : PE X i (rd S W0 gi))
    (ha : ∀ v, assign (.Subscript o i pos) X.env v = (do
      let ov ← holding [v] (eval o X.env)
      let iv ← holding [v, ov] (eval i X.env)
      standAt pos
      holding [v, ov, iv] (setItem ov iv v)
      release [v, ov, iv] []) := by intro _; rfl) {z : Option (List Nat)} : PG X (.Subscript o i pos) (rg S z (toSub go gi)) := by
  refine PG.weak (pg_sub ho hi set_list ha) fun v σ H Q h => ?_
  obtain ⟨H0, mm, ρ, μ, d, ok, dv, en⟩ := h
  have h0 : rk W0 (knU S) (fun _ H0 _ mm _ (_ : Unit) => Dp S H0 mm v d) (fun _ => toSub go gi d) σ H (fun _ H' => Q σ H') := by
    have en2 : EndK W0 (knU S) H0 H mm σ ρ (fun _ H' => Q σ H') (toSub go gi d ρ μ) := by
      cases q : toSub go gi d ρ μ with
      | no => rw [q] at en; exact en
      | exc x ρ' μ' => rw [q] at en; exact en.elim
      | ok u ρ' μ' =>
        rw [q] at en
        intro v2 H0' H' mm' ok' nx ow ho _
        exact en σ H0' H' mm' ok' nx ow .refl ho
    exact ⟨H0, H, mm, ρ, H0, mm, ρ, μ, (), ok, .refl, .refl, .refl, dv, en2⟩
  have st : Stay σ (fun _ H0 _ mm _ (_ : Unit) => Dp S H0 mm v d) := fun _ _ _ _ _ _ _ _ _ _ n _ _ q => q.nx n
  refine rd_mono (rk_push (k := knV S) (f := fun _ x => bnd gi fun y => toSubV d x y) st h0) fun ov H1 h1 => rd_mono (rk_push (k := knV S) (f := fun a y => toSubV d a.2 y) (stayV st) h1) fun iv H2 h2 => ?_
  obtain ⟨H0p, Hp, mmp, ρp, H0, mm, ρ, μ, ⟨⟨_, x⟩, y⟩, ok, nx, ow, ho, ⟨⟨dv, vx⟩, vy⟩, en⟩ := h2
  have vx : VlOk S Hp H0 H2 mm σ ρ ov x := vx
  have vy : VlOk S Hp H0 H2 mm σ ρ iv y := vy
  have dv : Dp S H0 mm v d := dv
  replace en : EndK W0 (knU S) H0p Hp mmp σ ρp (fun _ H' => Q σ H') (toSubV d x y ρ μ) := en
  unfold toSubV at en
  cases c : con μ ρ y with
  | none => rw [c] at en; exact en.elim
  | some dy =>
    rw [c] at en
    cases dy with
    | int k =>
      have ry : iv = .int k := vy.rdd ok c
      replace en : EndK W0 (knU S) H0p Hp mmp σ ρp (fun _ H' => Q σ H') (mutL (fun l => (ixN l.length k).map fun j => l.set j d) x ρ μ) := en
      cases q : mutL (fun l => (ixN l.length k).map fun j => l.set j d) x ρ μ with
      | no => rw [q] at en; exact en.elim
      | exc e ρ' μ' => exact (mutL_exc q).elim
      | ok u ρ' μ' =>
        rw [q] at en
        obtain ⟨a, vs, ds, ds', e1, e2, e3, e4, e5⟩ := mut_go ok vx q
        obtain ⟨j, ej, rfl⟩ := Option.map_eq_some_iff.mp e4
        obtain ⟨ok', nx', ow', ho'⟩ := e5 (vs.set j v) (e3.set j dv)
        exact ⟨a, vs, k, j, e1, ry, e2, by rw [e3.length]; exact ej, en () H0 _ mm ok' (nx.trans ow nx') (OwN.trans nx ow ow') (ho.trans ho') trivial⟩
    | _ => exact en.elim
end
end DL
set_option maxRecDepth 100000
set_option maxHeartbeats 2000000
/-! Instances: attributes, properties, made. -/
namespace DL
open PySem PySem.Spec L2 NdefX
open PyProof.Rows (envOfC)

/-! ### an instance is written -/
def mutO2 (C : Str) (i : Nat) (f : List (Str × D) → Option (List (Str × D))) (ρ : Env) (μ : Mu) : Option Sl → R Unit
  | some (.ow (.obj C' fs)) => if C' = C then (match f fs with
    | some fs' => .ok () (ρ.set i (.ow (.obj C fs'))) μ
    | none => .no) else .no
  | some (.fz (.mrf k)) => (match μ[k]? with
    | some (.ins C' fs) => if C' = C then (match f fs with
      | some fs' => .ok () ρ (μ.set k (.ins C fs'))
      | none => .no) else .no
    | _ => .no)
  | _ => .no
def mutM2 (C : Str) (k : Nat) (f : List (Str × D) → Option (List (Str × D))) (ρ : Env) (μ : Mu) : Option MO → R Unit
  | some (.ins C' fs) => if C' = C then (match f fs with
    | some fs' => .ok () ρ (μ.set k (.ins C fs'))
    | none => .no) else .no
  | _ => .no
/-- the instance (of the class C) that x is, written by f -/
def mutI (C : Str) (f : List (Str × D) → Option (List (Str × D))) : Vl → EF Unit
  | .slt i, ρ, μ => mutO2 C i f ρ μ ρ[i]?
  | .val (.mrf k), ρ, μ => mutM2 C k f ρ μ μ[k]?
  | _, _, _ => .no
section
variable {S : Sta} {H0 H : Hp} {mm : List Addr} {μ : Mu} {σ : St} {ρ : Env} {v : V} {G : Hp}
theorem Ok.put_own2 {i : Nat} {a : Addr} {d d' : D} {o u : HO} (ok : Ok S H0 H mm μ σ ρ) (e : ρ[i]? = some (.ow d)) (es : σ[i]? = some (some (.ref a))) (ea : H a = some o) (h1 : ∀ ps, o ≠ .tbl ps) (h2 : ∀ c q, o ≠ LamX.CodeO c q) (dv : OwOk S H0 (upd H a u) mm a d') :
    Ok S H0 (upd H a u) mm μ σ (ρ.set i (.ow d')) ∧ Nx (Own σ ρ) H0 H mm H0 (upd H a u) mm ∧ OwN H (Own σ ρ) (Own σ (ρ.set i (.ow d'))) ∧ Hold ρ (ρ.set i (.ow d')) := by
  obtain ⟨b, eb, n0, nm, q⟩ := ok.e.at_ i _ e
  rw [es] at eb
  cases eb
  have ow1 : ∀ {j : Nat} {d2 : D}, (ρ.set i (.ow d'))[j]? = some (.ow d2) → ∃ d3, ρ[j]? = some (.ow d3) := fun {j d2} z => by
    rcases set_cases z with ⟨rfl, _, _⟩ | ⟨_, z⟩
    · exact ⟨_, e⟩
    · exact ⟨_, z⟩
  refine ⟨⟨⟨fun c o ec => ?_, ⟨ok.g.mu.len, ok.g.mu.nd, fun k c m e1 e2 => (ok.g.mu.at_ k c m e1 e2).mono .refl .refl (upd_ne fun z => nm (by rw [← z]; exact List.mem_of_getElem? e1)), ok.g.mu.h0⟩, tabs_put ok.g.tab ea h1 h2, ok.g.nt⟩, by rw [List.length_set]; exact ok.e.len, fun j s ej => ?_, fun j k c d1 d2 hjk e1 e2 f1 f2 => ?_⟩, Nx.write ea (.inl ⟨i, _, e, es⟩), fun c hc => ?_, hold_set fun z => by cases z⟩
  · rw [upd_ne fun z => by rw [z, n0] at ec; cases ec]
    exact ok.g.sub _ _ ec
  · rcases set_cases ej with ⟨rfl, rfl, _⟩ | ⟨hj, ej⟩
    · exact ⟨a, es, n0, nm, dv⟩
    · have q2 := ok.e.at_ j s ej
      cases s with
      | un => trivial
      | fz d => exact q2
      | ow d =>
        obtain ⟨b, eb, m0, nm2, q2⟩ := q2
        refine ⟨b, eb, m0, nm2, q2.mono .refl .refl (upd_ne fun z => ?_)⟩
        exact ok.e.sep i j a _ d (Ne.symm hj) e ej es (by rw [← z]; exact eb)
  · obtain ⟨d3, z1⟩ := ow1 e1
    obtain ⟨d4, z2⟩ := ow1 e2
    exact ok.e.sep j k c d3 d4 hjk z1 z2 f1 f2
  · obtain ⟨j, d, e1, e2⟩ := hc
    obtain ⟨d3, z1⟩ := ow1 e1
    exact .inl ⟨j, d3, z1, e2⟩
theorem Ok.put_mu2 {k : Nat} {a : Addr} {m' : MO} {o u : HO} (ok : Ok S H0 H mm μ σ ρ) (e : mm[k]? = some a) (ea : H a = some o) (h1 : ∀ ps, o ≠ .tbl ps) (h2 : ∀ c q, o ≠ LamX.CodeO c q) (dv : MoOk S H0 (upd H a u) mm a m') :
    Ok S H0 (upd H a u) mm (μ.set k m') σ ρ ∧ Nx (Own σ ρ) H0 H mm H0 (upd H a u) mm := by
  have ha := List.mem_of_getElem? e
  have n0 := ok.g.mu.h0 a ha
  refine ⟨⟨⟨fun c o ec => ?_, ⟨by rw [List.length_set]; exact ok.g.mu.len, ok.g.mu.nd, fun j c m e1 e2 => ?_, ok.g.mu.h0⟩, tabs_put ok.g.tab ea h1 h2, ok.g.nt⟩, ok.e.len, fun j s ej => ?_, ok.e.sep⟩, Nx.write ea (.inr ha)⟩
  · rw [upd_ne fun z => by rw [z, n0] at ec; cases ec]
    exact ok.g.sub _ _ ec
  · rcases set_cases e2 with ⟨rfl, rfl, _⟩ | ⟨hj, e2⟩
    · rw [e] at e1
      cases e1
      exact dv
    · refine (ok.g.mu.at_ j c m e1 e2).mono .refl .refl (upd_ne fun z => hj ?_)
      rw [z] at e1
      exact (List.getElem?_inj (List.getElem?_eq_some_iff.mp e1).1 ok.g.mu.nd).mp (e1.trans e.symm)
  · have q2 := ok.e.at_ j s ej
    cases s with
    | un => trivial
    | fz d => exact q2
    | ow d =>
      obtain ⟨b, eb, m0, nm2, q2⟩ := q2
      exact ⟨b, eb, m0, nm2, q2.mono .refl .refl (upd_ne fun z => nm2 (by rw [z]; exact ha))⟩
theorem ins_code {C dx : Addr} {fs : List (Str × V)} : ∀ c q, HO.ins C dx fs ≠ LamX.CodeO c q := fun _ _ z => by unfold LamX.CodeO at z; cases z
theorem muti_go {C : Str} {x : Vl} {f : List (Str × D) → Option (List (Str × D))} {ρ' : Env} {μ' : Mu} (ok : Ok S H0 H mm μ σ ρ) (va : VlOk S G H0 H mm σ ρ v x) (e : mutI C f x ρ μ = .ok () ρ' μ') :
    ∃ a dx fvs fs fs', v = .ref a ∧ H a = some (.ins (He.ga S.K C) dx fvs) ∧ Dfs S H0 mm fvs fs ∧ f fs = some fs' ∧ ∀ dx' fvs', Dfs S H0 mm fvs' fs' →
      Ok S H0 (upd H a (.ins (He.ga S.K C) dx' fvs')) mm μ' σ ρ' ∧ Nx (Own σ ρ) H0 H mm H0 (upd H a (.ins (He.ga S.K C) dx' fvs')) mm ∧ OwN H (Own σ ρ) (Own σ ρ') ∧ Hold ρ ρ' := by
  have viaM : ∀ {k : Nat} {a : Addr}, mm[k]? = some a → mutM2 C k f ρ μ μ[k]? = .ok () ρ' μ' → ∃ dx fvs fs fs', H a = some (.ins (He.ga S.K C) dx fvs) ∧ Dfs S H0 mm fvs fs ∧ f fs = some fs' ∧ ∀ dx' fvs', Dfs S H0 mm fvs' fs' →
      Ok S H0 (upd H a (.ins (He.ga S.K C) dx' fvs')) mm μ' σ ρ' ∧ Nx (Own σ ρ) H0 H mm H0 (upd H a (.ins (He.ga S.K C) dx' fvs')) mm ∧ OwN H (Own σ ρ) (Own σ ρ') ∧ Hold ρ ρ' := fun {k a} ea e => by
    cases em : μ[k]? with
    | none => rw [em] at e; cases e
    | some m =>
      rw [em] at e
      cases m with
      | lst ds => cases e
      | ins C' fs =>
        replace e : (if C' = C then (match f fs with
          | some fs' => R.ok () ρ (μ.set k (.ins C fs'))
          | none => .no) else .no) = .ok () ρ' μ' := e
        by_cases hC : C' = C
        · subst hC
          rw [if_pos rfl] at e
          cases q : f fs with
          | none => rw [q] at e; cases e
          | some fs' =>
            rw [q] at e
            cases e
            obtain ⟨dx, fvs, eh, dv⟩ := ok.g.mu.at_ k a _ ea em
            refine ⟨dx, fvs, fs, fs', eh, dv, q, fun dx' fvs' dv' => ?_⟩
            obtain ⟨z1, z2⟩ := ok.put_mu2 (m' := .ins C' fs') (u := .ins (He.ga S.K C') dx' fvs') ea eh (fun _ z => by cases z) ins_code ⟨dx', fvs', upd_same, dv'⟩
            exact ⟨z1, z2, .refl, .refl⟩
        · rw [if_neg hC] at e; cases e
  cases x with
  | frs d => cases e
  | slt i =>
    obtain ⟨es, s, e1, e2⟩ := va
    replace e : mutO2 C i f ρ μ ρ[i]? = .ok () ρ' μ' := e
    rw [e1] at e
    cases s with
    | un => cases e
    | fz d =>
      cases d with
      | mrf k =>
        obtain ⟨v', ev, a, ea, rfl⟩ := ok.e.at_ i _ e1
        rw [es] at ev
        cases ev
        have e : mutM2 C k f ρ μ μ[k]? = .ok () ρ' μ' := by
          rw [← e]
          unfold mutM2 mutO2
          rfl
        obtain ⟨dx, fvs, fs, fs', r⟩ := viaM ea e
        exact ⟨a, dx, fvs, fs, fs', rfl, r⟩
      | _ => cases e
    | ow d =>
      cases d with
      | obj C' fs =>
        replace e : (if C' = C then (match f fs with
          | some fs' => R.ok () (ρ.set i (.ow (.obj C fs'))) μ
          | none => .no) else .no) = .ok () ρ' μ' := e
        by_cases hC : C' = C
        · subst hC
          rw [if_pos rfl] at e
          cases q : f fs with
          | none => rw [q] at e; cases e
          | some fs' =>
            rw [q] at e
            cases e
            obtain ⟨a, ev, _, _, dx, fvs, ea, dv⟩ := ok.e.at_ i _ e1
            rw [es] at ev
            cases ev
            exact ⟨a, dx, fvs, fs, fs', rfl, ea, dv, q, fun dx' fvs' dv' => ok.put_own2 (u := .ins (He.ga S.K C') dx' fvs') e1 es ea (fun _ z => by cases z) ins_code ⟨dx', fvs', upd_same, dv'⟩⟩
        · rw [if_neg hC] at e; cases e
      | _ => cases e
  | val d =>
    cases d with
    | mrf k =>
      obtain ⟨a, ea, rfl⟩ := va
      obtain ⟨dx, fvs, fs, fs', r⟩ := viaM ea e
      exact ⟨a, dx, fvs, fs, fs', rfl, r⟩
    | _ => cases e
theorem Dfs.put {fs : List (Str × D)} {fvs : List (Str × V)} {f : Str} {d : D} (h : Dfs S H0 mm fvs fs) (dv : Dp S H0 mm v d) : Dfs S H0 mm (putF f v fvs) (putD f d fs) := by
  induction fs generalizing fvs with
  | nil =>
    cases (show fvs = [] from h)
    exact ⟨v, [], rfl, dv, rfl⟩
  | cons p fs ih =>
    obtain ⟨g, e⟩ := p
    obtain ⟨w, r, rfl, q, t⟩ := h
    unfold putF putD
    by_cases hg : g = f
    · rw [if_pos hg, if_pos hg]
      exact ⟨v, r, rfl, dv, t⟩
    · rw [if_neg hg, if_neg hg]
      exact ⟨w, _, rfl, q, ih t⟩
end

/-! ### attributes -/
/-- what of the text is known of the attribute f of the class C -/
structure CF (K : PySem.W.Frag) (C f : Str) : Prop where
  c : L2.Cls K (He.ga K C)
  n : NoAttr K (He.ga K C) f
def hFld (C f : Str) : D → EF Vl
  | .obj C' fs => if C' = C then okD (fs.lookup f) else stuck
  | _ => stuck
def sFldV (C f : Str) (y x : Vl) : SF := fun ρ μ => match y with
  | .val d => (match mutI C (fun fs => if fs.length < 1000 then some (putD f d fs) else none) x ρ μ with
    | .ok _ ρ' μ' => .nx ρ' μ'
    | _ => .no)
  | _ => .no
def sFldS (C f : Str) (gv go : EF Vl) : SF := sBnd (gFrz gv) fun y => sBnd go fun x => sFldV C f y x
section
variable {S : Sta} {W : WX} {X : Cx} {o e value : Expr} {f C : Str} {pos pos' : Pos} {g gv go : EF Vl}
theorem e_fld (hK : X.K = S.K) (c : CF S.K C f) (he : PE X e (rd S W g)) (hb : attributeBase e f X.env (eval e X.env) = eval e X.env := by rfl) : PE X (.Attribute e f pos) (rd S W (g1 (hFld C f) g)) :=
  PE.weak (pe_fld he hb) fun σ H Q h => by
    rw [hK]
    refine t_one (r1 := fun x H1 Q => ∃ a C dx fs v, x = .ref a ∧ H1 a = some (.ins C dx fs) ∧ L2.Cls S.K C ∧ NoAttr S.K C f ∧ fs.lookup f = some v ∧ Q v H1) (fun x dx H0 H mm μ σ ρ Q ok rx en => ?_) h
    cases dx with
    | obj C' fs =>
      replace en : Fin S W H0 H mm σ ρ Q ((if C' = C then okD (fs.lookup f) else stuck : EF Vl) ρ μ) := en
      by_cases hC : C' = C
      · subst hC
        rw [if_pos rfl] at en
        obtain ⟨d, el, en⟩ := okD_some en
        obtain ⟨a, dx, fvs, rfl, q, r⟩ := rx
        obtain ⟨v, ev, dv⟩ := r.look el
        exact ⟨a, _, dx, fvs, v, rfl, q, c.c, c.n, ev, fin_val ok en dv⟩
      · rw [if_neg hC] at en; exact en.no.elim
    | _ => exact en.no.elim
end
end DL
set_option maxRecDepth 100000
set_option maxHeartbeats 2000000
/-! Instances: stores, properties, made; objects held by reference. -/
namespace DL
open PySem PySem.Spec L2 NdefX
open PyProof.Rows (envOfC)
section
variable {S : Sta} {W : WX} {X : Cx} {o e value : Expr} {f C : Str} {pos pos' : Pos} {g gv go : EF Vl}
theorem gFrz_val {g : EF Vl} {ρ ρ' : Env} {μ μ' : Mu} {x : Vl} (q : gFrz g ρ μ = .ok x ρ' μ') : ∃ d, x = .val d := by
  unfold gFrz bnd at q
  cases q2 : g ρ μ with
  | ok y ρ2 μ2 => rw [q2] at q; exact frzV_val q
  | exc y ρ2 μ2 => rw [q2] at q; cases q
  | no => rw [q2] at q; cases q
/-- e.f = value -/
theorem s_fld (hK : X.K = S.K) (c : CF S.K C f) (ho : PE X o (rd S W go)) (hv : PE X value (rd S W gv)) (hs : swapsWith value (some (.Attribute o f pos')) pos.line X.env = pure false := by rfl) : PS X (.Assign [.Attribute o f pos'] value pos) (rs S W (sFldS C f gv go)) :=
  PS.weak (ps_fld ho (e_frz hv) hs) fun D σ H h => by
    rw [hK]
    refine rd_mono (rs_bnd (k := knV S) h) fun y H1 ⟨H0p, Hp, mmp, ρp, H0, mm, ρ, μ, ay, ok, nx, ow, ho, vy, en⟩ => ?_
    have vy : VlOk S Hp H0 H1 mm σ ρ y ay := vy
    -- the receiver
    replace en : EndS (S := S) W H0p Hp mmp σ ρp D (sBnd go (fun x => sFldV C f ay x) ρ μ) := en
    unfold sBnd at en
    refine ⟨H0, mm, ρ, μ, ok, ?_⟩
    cases q : go ρ μ with
    | no => rw [q] at en; exact en
    | exc x ρ' μ' =>
      rw [q] at en
      exact fun cls od H0' H' mm' ok' nx' ow' xr => en cls od σ H0' H' mm' ok' (nx.trans ow nx') (OwN.trans nx ow ow') xr
    | ok x ρ' μ' =>
      rw [q] at en
      intro xv H0' H2 mm' ok' nx' ow' ho' vx
      have vx : VlOk S H1 H0' H2 mm' σ ρ' xv x := vx
      replace en : EndS (S := S) W H0p Hp mmp σ ρp D (sFldV C f ay x ρ' μ') := en
      unfold sFldV at en
      cases ay with
      | frs d => exact en.elim
      | slt i => exact en.elim
      | val d =>
        have dv : Dp S H0' mm' y d := Dp.nx nx' vy
        replace en : EndS (S := S) W H0p Hp mmp σ ρp D (match mutI C (fun fs => if fs.length < 1000 then some (putD f d fs) else none) x ρ' μ' with
          | .ok _ ρ' μ' => .nx ρ' μ'
          | _ => .no) := en
        cases q2 : mutI C (fun fs => if fs.length < 1000 then some (putD f d fs) else none) x ρ' μ' with
        | no => rw [q2] at en; exact en.elim
        | exc z ρ2 μ2 => rw [q2] at en; exact en.elim
        | ok u ρ2 μ2 =>
          rw [q2] at en
          obtain ⟨a, dx, fvs, fs, fs', e1, e2, e3, e4, e5⟩ := muti_go ok' vx q2
          split at e4
          · rename_i hl
            cases e4
            obtain ⟨ok2, nx2, ow2, ho2⟩ := e5 dx (putF f y fvs) (e3.put dv)
            refine ⟨a, _, dx, fvs, e1, e2, c.c, c.n, by rw [e3.length]; exact hl, ?_⟩
            have n1 := nx.trans ow nx'
            have w1 := OwN.trans nx ow ow'
            exact en σ H0' _ mm' ok2 (n1.trans w1 nx2) (OwN.trans n1 w1 ow2)
          · cases e4
end

/-! ### properties, methods of instances -/
/-- the class of an instance -/
def clsD (μ : Mu) (d : D) : Option Str := match seeD μ d with
  | .obj C _ => some C
  | _ => none
def gProp (C : Str) (m : DF) (g : EF Vl) : EF Vl := bnd (gFrz g) fun x => fun ρ μ => match x with
  | .val d => if clsD μ d = some C then callV0 m [d] ρ μ else .no
  | _ => .no
where callV0 (m : DF) (ds : List D) : EF Vl := fun ρ μ => match m ds μ with
  | .ok d μ' => .ok (.val d) ρ μ'
  | _ => .no
/-- a property of the class C -/
structure CP (P : Program) (w : World) (S : Sta) (mg : Str → Option Value) (base : Heap) (k : Nat) (C f : Str) (m : DF) : Prop where
  c : L2.Cls S.K (He.ga S.K C)
  ex : ∃ (p g : Addr) (fd : FuncData) (ps : List Str), PropOf S.K (He.ga S.K C) f p g ∧ FnOk P w S.K mg base (L2.CX P w) k g fd ps (spF S 1 m) ∧ Binds S.K fd ps []
/-- a method of the class C -/
structure CM (P : Program) (w : World) (S : Sta) (mg : Str → Option Value) (base : Heap) (k : Nat) (C f : Str) (n : Nat) (m : DF) : Prop where
  c : L2.Cls S.K (He.ga S.K C)
  ex : ∃ (g : Addr) (fd : FuncData) (ps : List Str), Meth S.K (He.ga S.K C) f g ∧ FnOk P w S.K mg base (L2.CX P w) k g fd ps (spF S n m) ∧ Binds S.K fd ps []
section
variable {S : Sta} {W : WX} {X : Cx} {o e : Expr} {es : List Expr} {f C : Str} {pos apos : Pos} {g : EF Vl} {m : DF} {k j n : Nat} {t : EF (List D)}
theorem cls_rdd {H0 H : Hp} {mm : List Addr} {μ : Mu} {σ : St} {ρ : Env} {v : V} {d : D} (ok : Ok S H0 H mm μ σ ρ) (dv : Dp S H0 mm v d) (h : clsD μ d = some C) : ∃ a dx fvs fs, v = .ref a ∧ H a = some (.ins (He.ga S.K C) dx fvs) ∧ seeD μ d = .obj C fs ∧ Dfs S H0 mm fvs fs := by
  have r := Rdd.see ok (Rdd.of ok.g.sub dv)
  unfold clsD at h
  revert h r
  cases seeD μ d with
  | obj C' fs =>
    intro h r
    cases h
    obtain ⟨a, dx, fvs, e, q, z⟩ := r
    exact ⟨a, dx, fvs, fs, e, q, rfl, z⟩
  | _ => intro h; cases h
theorem e_prop (hK : X.K = S.K) (c : CP X.prog X.w S X.mg X.base k C f m) (hr : Room (j + 1) X.A) (hk : k ≤ j) (he : PE X e (rd S W g)) (hab : attributeBase e f X.env (eval e X.env) = eval e X.env := by rfl) : PE X (.Attribute e f pos) (rd S W (gProp C m g)) := by
  obtain ⟨cc, p, gg, fd, ps, hp, F, b⟩ := c
  rw [← hK] at cc hp F b
  refine PE.weak (pe_prop (dvs := []) (ds := []) (E := fun _ _ _ => False) (e_frz he) cc hp F (hr.mono (Nat.add_le_add_right hk 1)) b .nil (fun _ _ _ _ _ _ _ z => by obtain ⟨_, _, _, _, _, _, _, _, _, _, _, _, z⟩ := z; exact z.elim) hab) fun σ H Q h => ?_
  refine rd_mono (rk_push (k := knV S) stay0 (rk_start h)) fun v H1 h1 => ?_
  obtain ⟨H0p, Hp, mmp, ρp, H0, mm, ρ, μ, ⟨_, x⟩, ok, nx, ow, ho, ⟨_, vx⟩, en⟩ := h1
  have vx : VlOk S Hp H0 H1 mm σ ρ v x := vx
  cases x with
  | frs d => exact en.elim
  | slt i => exact en.elim
  | val d =>
    replace en : EndV S W H0p Hp mmp σ ρp Q (if clsD μ d = some C then gProp.callV0 m [d] ρ μ else .no) := en
    by_cases hC : clsD μ d = some C
    · rw [if_pos hC] at en
      obtain ⟨a, dx, fvs, fs, rfl, ea, _, _⟩ := cls_rdd ok vx hC
      refine ⟨a, dx, fvs, rfl, by rw [hK]; exact ea, H0, mm, [d], μ, ok.g, ⟨_, _, rfl, vx, rfl⟩, rfl, ?_⟩
      unfold gProp.callV0 at en
      cases q : m [d] μ with
      | no => rw [q] at en; exact en
      | exc x μ' => rw [q] at en; exact en.elim
      | ok d' μ' =>
        rw [q] at en
        exact fun v H0' H' mm' g n dv => en v H0' H' mm' (ok.call g n) (nx.trans ow n.of_call) (fun a h => ow a h) ho dv
    · rw [if_neg hC] at en; exact en.elim
end
/-! ### held by reference -/
def refA (d : D) (ρ : Env) (μ : Mu) : R Vl := match d with
  | .lst ds => .ok (.val (.mrf μ.length)) ρ (μ ++ [.lst ds])
  | .obj C fs => .ok (.val (.mrf μ.length)) ρ (μ ++ [.ins C fs])
  | _ => .no
def refV : Vl → EF Vl
  | .frs d, ρ, μ => refA d ρ μ
  | _, _, _ => .no
/-- what was just made is held by reference from now on -/
def gRef (g : EF Vl) : EF Vl := bnd g refV
section
variable {S : Sta} {W : WX} {X : Cx} {e : Expr} {g : EF Vl}
theorem Ok.ref {H0 H : Hp} {mm : List Addr} {μ : Mu} {σ : St} {ρ : Env} {a : Addr} {m : MO} (ok : Ok S H0 H mm μ σ ρ) (h0 : H0 a = none) (hm : a ∉ mm) (no : ¬ Own σ ρ a) (q : MoOk S H0 H mm a m) : Ok S H0 H (mm ++ [a]) (μ ++ [m]) σ ρ := by
  have pr : Pre mm (mm ++ [a]) := ⟨[a], rfl⟩
  refine ⟨⟨ok.g.sub, ⟨by rw [List.length_append, List.length_append, ok.g.mu.len] <;> rfl, List.nodup_append.mpr ⟨ok.g.mu.nd, List.nodup_cons.mpr ⟨by simp, List.nodup_nil⟩, fun x hx y hy z => ?_⟩, fun k b x e1 e2 => ?_, fun b hb => ?_⟩, ok.g.tab, ok.g.nt⟩, ok.e.len, fun i s e => ?_, ok.e.sep⟩
  · rw [List.mem_singleton] at hy
    rw [hy] at z
    exact hm (by rw [← z]; exact hx)
  · by_cases hk : k < mm.length
    · rw [List.getElem?_append_left hk] at e1
      rw [List.getElem?_append_left (by rw [← ok.g.mu.len]; exact hk)] at e2
      exact (ok.g.mu.at_ k b x e1 e2).mono .refl pr rfl
    · rw [List.getElem?_append_right (Nat.not_lt.mp hk)] at e1
      rw [List.getElem?_append_right (by rw [← ok.g.mu.len]; exact Nat.not_lt.mp hk), ← ok.g.mu.len] at e2
      cases hz : k - mm.length with
      | zero => rw [hz] at e1 e2; simp at e1 e2; subst e1; subst e2; exact q.mono .refl pr rfl
      | succ z => rw [hz] at e1; simp at e1
  · rcases List.mem_append.mp hb with z | z
    · exact ok.g.mu.h0 b z
    · rw [List.mem_singleton.mp z]; exact h0
  · have q2 := ok.e.at_ i s e
    cases s with
    | un => trivial
    | fz d =>
      obtain ⟨v, ev, q2⟩ := q2
      exact ⟨v, ev, Dp.mono .refl pr _ q2⟩
    | ow d =>
      obtain ⟨b, ev, n0, nm, q2⟩ := q2
      refine ⟨b, ev, n0, fun z => ?_, q2.mono .refl pr rfl⟩
      rcases List.mem_append.mp z with z | z
      · exact nm z
      · rw [List.mem_singleton] at z
        exact no ⟨i, d, e, by rw [← z]; exact ev⟩
theorem e_ref (h : PE X e (rd S W g)) : PE X e (rd S W (gRef g)) := by
  refine PE.weak h fun σ H Q h => ?_
  refine rd_mono (rk_push (k := knV S) stay0 (rk_start h)) fun v H1 h1 => ?_
  obtain ⟨H0p, Hp, mmp, ρp, H0, mm, ρ, μ, ⟨_, x⟩, ok, nx, ow, ho, ⟨_, vx⟩, en⟩ := h1
  have vx : VlOk S Hp H0 H1 mm σ ρ v x := vx
  cases x with
  | val d => exact en.elim
  | slt i => exact en.elim
  | frs d =>
    obtain ⟨a, rfl, hg, h0, hm, no, q⟩ := vx
    replace en : EndV S W H0p Hp mmp σ ρp Q (refA d ρ μ) := en
    have fin : ∀ {m : MO}, MoOk S H0 H1 mm a m → EndV S W H0p Hp mmp σ ρp Q (.ok (.val (.mrf μ.length)) ρ (μ ++ [m])) → Q (.ref a) H1 := fun {m} q en => by
      have nx2 : Nx (Own σ ρp) H0p Hp mmp H0 H1 (mm ++ [a]) := ⟨nx.old0, nx.new0, nx.keep, nx.grow, by
        obtain ⟨more, e1, e2⟩ := nx.mmx
        refine ⟨more ++ [a], by rw [e1, List.append_assoc], fun b hb => ?_⟩
        rcases List.mem_append.mp hb with z | z
        · exact e2 b z
        · rw [List.mem_singleton.mp z]; exact hg⟩
      exact en (.ref a) H0 H1 (mm ++ [a]) (ok.ref h0 hm no q) nx2 ow ho ⟨a, by rw [← ok.g.mu.len, List.getElem?_append_right (Nat.le_refl _), Nat.sub_self]; rfl, rfl⟩
    cases d with
    | lst ds => exact fin (m := .lst ds) q en
    | obj C fs => exact fin (m := .ins C fs) q en
    | _ => exact en.elim
end
end DL
set_option maxRecDepth 100000
set_option maxHeartbeats 2000000
/-! Instances are made. -/
namespace DL
open PySem PySem.Spec L2 NdefX
open PyProof.Rows (envOfC)

/-! ### no reference to the object k -/
mutual
def noR (k : Nat) : D → Bool
  | .tup ds => noRs k ds
  | .lst ds => noRs k ds
  | .scr ds => noRs k ds
  | .dic ks vs => noRs k ks && noRs k vs
  | .obj _ fs => noRf k fs
  | .clo _ env => noRs k env
  | .mrf j => j != k
  | _ => true
def noRs (k : Nat) : List D → Bool
  | [] => true
  | d :: ds => noR k d && noRs k ds
def noRf (k : Nat) : List (Str × D) → Bool
  | [] => true
  | (_, d) :: fs => noR k d && noRf k fs
end
def noRm (k : Nat) : MO → Bool
  | .lst ds => noRs k ds
  | .ins _ fs => noRf k fs
section
variable {S : Sta} {H0 : Hp} {mm : List Addr} {a : Addr}
mutual
theorem Dp.unref : ∀ (d : D) {v : V}, noR mm.length d = true → Dp S H0 (mm ++ [a]) v d → Dp S H0 mm v d
  | .non, _, _, h => h
  | .bl _, _, _, h => h
  | .int _, _, _, h => h
  | .str _, _, _, h => h
  | .tup ds, _, n, ⟨a, vs, e, q, r⟩ => ⟨a, vs, e, q, Dps.unref ds n r⟩
  | .lst ds, _, n, ⟨a, vs, e, q, r⟩ => ⟨a, vs, e, q, Dps.unref ds n r⟩
  | .scr ds, _, n, ⟨a, vs, e, q, r⟩ => ⟨a, vs, e, q, Dps.unref ds n r⟩
  | .dic ks vs, _, n, ⟨a, kvs, e, q, r, t⟩ => ⟨a, kvs, e, q, Dps.unref ks (and_l n) r, Dps.unref vs (and_r n) t⟩
  | .obj C fs, _, n, ⟨a, dx, fvs, e, q, r⟩ => ⟨a, dx, fvs, e, q, Dfs.unref fs n r⟩
  | .mrf k, _, n, ⟨b, e, q⟩ => by
    have n : (k != mm.length) = true := n
    have hk : k ≠ mm.length := by simpa using n
    have hl := (List.getElem?_eq_some_iff.mp e).1
    rw [List.length_append, List.length_singleton] at hl
    rw [List.getElem?_append_left (by omega)] at e
    exact ⟨b, e, q⟩
  | .glo _, _, _, h => h
  | .clo c env, _, n, ⟨a, vs, e, q, r⟩ => ⟨a, vs, e, q, Dps.unref env n r⟩
  | .ty _, _, _, h => h
theorem Dps.unref : ∀ (ds : List D) {vs : List V}, noRs mm.length ds = true → Dps S H0 (mm ++ [a]) vs ds → Dps S H0 mm vs ds
  | [], _, _, h => h
  | d :: ds, _, n, ⟨v, r, e, q, t⟩ => ⟨v, r, e, Dp.unref d (and_l n) q, Dps.unref ds (and_r n) t⟩
theorem Dfs.unref : ∀ (fs : List (Str × D)) {fvs : List (Str × V)}, noRf mm.length fs = true → Dfs S H0 (mm ++ [a]) fvs fs → Dfs S H0 mm fvs fs
  | [], _, _, h => h
  | (f, d) :: fs, _, n, ⟨v, r, e, q, t⟩ => ⟨v, r, e, Dp.unref d (and_l n) q, Dfs.unref fs (and_r n) t⟩
end
theorem MoOk.unref {H : Hp} {b : Addr} : ∀ {m : MO}, noRm mm.length m = true → MoOk S H0 H (mm ++ [a]) b m → MoOk S H0 H mm b m
  | .lst ds, n, ⟨vs, q, t⟩ => ⟨vs, q, Dps.unref ds n t⟩
  | .ins _ fs, n, ⟨dx, fvs, q, t⟩ => ⟨dx, fvs, q, Dfs.unref fs n t⟩
end

/-! ### C(..) -/
/-- the fields at the end of __init__ -/
def insAt (C : Str) : Option MO → Option (List (Str × D))
  | some (.ins C' fs) => if C' = C then some fs else none
  | _ => none
def madeF (C : Str) (k : Nat) (μ' : Mu) : Option (List (Str × D) × Mu) := (insAt C μ'[k]?).bind fun fs => if μ'.length = k + 1 ∧ noRf k fs = true ∧ (μ'.take k).all (noRm k) = true then some (fs, μ'.take k) else none
def makeV (C : Str) (n : Nat) (m : DF) (ds : List D) : EF Vl := fun ρ μ => if ds.length + 1 = n then (match m (.mrf μ.length :: ds) (μ ++ [.ins C []]) with
  | .ok .non μ' => (match madeF C μ.length μ' with
    | some (fs, μ2) => .ok (.frs (.obj C fs)) ρ μ2
    | none => .no)
  | _ => .no) else .no
/-- a new instance that is held by one place -/
def gMake (C : Str) (n : Nat) (m : DF) (t : EF (List D)) : EF Vl := bnd t (makeV C n m)
/-- a class that is made by its __init__ -/
structure CI (P : Program) (w : World) (S : Sta) (mg : Str → Option Value) (base : Heap) (k : Nat) (C : Str) (n : Nat) (m : DF) : Prop where
  ex : ∃ (f : Addr) (fd : FuncData) (ps : List Str), Mk S.K (He.ga S.K C) f ∧ FnOk P w S.K mg base (L2.CX P w) k f fd ps (spF S n m) ∧ mg C = some (.ref (He.ga S.K C)) ∧ Binds S.K fd ps []
section
variable {S : Sta} {W : WX} {X : Cx} {e : Expr} {es : List Expr} {C : Str} {p pos : Pos} {m : DF} {k j n : Nat} {t : EF (List D)}
/-- behind __init__: the new instance is held by one place again -/
theorem unmake {H0 H H2 H0' H' : Hp} {mm mm' : List Addr} {μ μ' μ2 : Mu} {σ : St} {ρ : Env} {x : Addr} {fs : List (Str × D)} (ok : Ok S H0 H mm μ σ ρ) (hx : H x = none) (sub : Sub H H2) (g : Glo S H0' H' mm' μ') (nx : Nx (fun _ => False) H0 H2 (mm ++ [x]) H0' H' mm') (hm : madeF C μ.length μ' = some (fs, μ2)) :
    Ok S H0' H' mm μ2 σ ρ ∧ Nx (Own σ ρ) H0 H mm H0' H' mm ∧ H0' x = none ∧ x ∉ mm ∧ ¬ Own σ ρ x ∧ OwOk S H0' H' mm x (.obj C fs) := by
  have xm : x ∉ mm := fun z => ok.ne hx z rfl
  have nown : ¬ Own σ ρ x := fun z => ok.own_there z hx
  obtain ⟨fs', h1, h2⟩ := Option.bind_eq_some_iff.mp hm
  split at h2
  · rename_i hc
    obtain ⟨hl, hf, ha⟩ := hc
    cases h2
    obtain ⟨more, e1, e2⟩ := nx.mmx
    have lm : mm.length = μ.length := ok.g.mu.len
    have hmore : more = [] := by
      have z := g.mu.len
      rw [e1, List.length_append, List.length_append, List.length_singleton, hl, lm] at z
      exact List.eq_nil_of_length_eq_zero (by omega)
    rw [hmore, List.append_nil] at e1
    subst e1
    have hs : ∀ a, H a ≠ none → H2 a ≠ none := fun a h => by
      cases q : H a with
      | none => exact absurd q h
      | some o => rw [sub _ _ q]; simp
    have ex : (mm ++ [x])[μ.length]? = some x := by rw [← lm, List.getElem?_append_right (Nat.le_refl _), Nat.sub_self]; rfl
    obtain ⟨C', q⟩ : ∃ C', μ'[μ.length]? = some (.ins C' fs) ∧ C' = C := by
      unfold insAt at h1
      split at h1
      · rename_i C' fs2 e
        split at h1
        · rename_i hC
          cases h1
          exact ⟨C', e, hC⟩
        · cases h1
      · cases h1
    obtain ⟨q, rfl⟩ := q
    obtain ⟨dx, fvs, q1, q2⟩ := g.mu.at_ _ x _ ex q
    have nx2 : Nx (Own σ ρ) H0 H mm H0' H' mm := ⟨nx.old0, fun a h _ => nx.new0 a (hs a h) (fun z => z), fun a o e h _ nt => nx.keep a o (sub _ _ e) (fun z => by
      rcases List.mem_append.mp z with z | z
      · exact h z
      · rw [List.mem_singleton.mp z, hx] at e; cases e) (fun z => z) nt, fun a h => nx.grow a (hs a h), [], by simp, by simp⟩
    refine ⟨⟨⟨g.sub, ⟨by rw [List.length_take, hl, lm]; omega, ok.g.mu.nd, fun i a mo f1 f2 => ?_, fun a h => g.mu.h0 a (List.mem_append.mpr (.inl h))⟩, g.tab, g.nt⟩, ok.e.len, fun i s es => ?_, ok.e.sep⟩, nx2, g.mu.h0 x (by simp), xm, nown, dx, fvs, q1, Dfs.unref fs (by rw [lm]; exact hf) q2⟩
    · have hi := (List.getElem?_eq_some_iff.mp f1).1
      have f1' : (mm ++ [x])[i]? = some a := by rw [List.getElem?_append_left hi]; exact f1
      rw [List.getElem?_take_of_lt (by rw [← lm]; exact hi)] at f2
      refine (g.mu.at_ i a mo f1' f2).unref ?_
      rw [lm]
      exact List.all_eq_true.mp ha mo (List.mem_of_getElem? (by rw [List.getElem?_take_of_lt (by rw [← lm]; exact hi)]; exact f2))
    · have q := ok.e.at_ i s es
      cases s with
      | un => trivial
      | fz d =>
        obtain ⟨v, ev, q⟩ := q
        exact ⟨v, ev, Dp.nx nx2 q⟩
      | ow d =>
        obtain ⟨b, ev, n0, nm, q⟩ := q
        obtain ⟨o, eo, nt⟩ := q.there
        have hb : H b ≠ none := by rw [eo]; simp
        have bx : b ∉ mm ++ [x] := fun z => by
          rcases List.mem_append.mp z with z | z
          · exact nm z
          · rw [List.mem_singleton.mp z] at hb; exact hb hx
        exact ⟨b, ev, by rw [nx.new0 b (hs b hb) (fun z => z)]; exact n0, nm, q.mono nx.old0 .refl (by rw [nx.keep b o (sub _ _ eo) bx (fun z => z) nt, eo])⟩
  · cases h2
theorem e_make (c : CI X.prog X.w S X.mg X.base k C n m) (hK : X.K = S.K) (hr : Room (j + 1) X.A) (hk : k ≤ j) (hg : Gl X C) (ha : PA X (e :: es) (ra S W t))
    (hdb : (C == ("__debug__" : Str)) = false := by decide) (he : starEach (e :: es) X.env = (false, eval e X.env) :: starEach es X.env := by rfl) (hpl : (backTo pos (starEach es X.env)).any (·.1) = false := by rfl) :
    PE X (.Call (.Name C p) (e :: es) [] pos) (rd S W (gMake C n m t)) := by
  obtain ⟨f, fd, ps, M, F, hm, b⟩ := c.ex
  rw [← hK] at M F hm b
  refine PE.weak (pe_make (dvs := []) (ds := []) (E := fun _ _ _ => False) M F (hr.mono (Nat.add_le_add_right hk 1)) hg hm b .nil (fun _ _ _ _ _ _ _ z => by obtain ⟨_, _, _, _, _, _, _, _, _, _, _, _, z⟩ := z; exact z.elim) ha hdb he hpl) fun σ H Q h => ?_
  refine rd_mono (rk_push (k := knA S) stay0 (rk_start h)) fun vs H1 h1 => ?_
  obtain ⟨H0p, Hp, mmp, ρp, H0, mm, ρ, μ, ⟨_, ds⟩, ok, nx, ow, ho, ⟨_, dv⟩, en⟩ := h1
  have dv : Dps S H0 mm vs ds := dv
  intro x dx hx hdx hne
  replace en : EndV S W H0p Hp mmp σ ρp Q (makeV C n m ds ρ μ) := en
  unfold makeV at en
  by_cases hl : ds.length + 1 = n
  · rw [if_pos hl] at en
    rw [hK]
    have ok1 : Ok S H0 (upd H1 dx (.own x)) mm μ σ ρ := ok.made hdx
    have hx1 : (upd H1 dx (.own x)) x = none := by rw [upd_ne (Ne.symm hne)]; exact hx
    have ok2 : Ok S H0 (upd (upd H1 dx (.own x)) x (.ins (He.ga S.K C) dx [])) mm μ σ ρ := ok1.made hx1
    have sub : Sub H1 (upd (upd H1 dx (.own x)) x (.ins (He.ga S.K C) dx [])) := (Sub.alloc hdx).trans (Sub.alloc hx1)
    have xm : x ∉ mm := fun z => ok.ne hx z rfl
    have hx0 : H0 x = none := by
      cases q : H0 x with
      | none => rfl
      | some u => rw [ok.g.sub _ _ q] at hx; cases hx
    have ok3 := ok2.ref (m := .ins C []) hx0 xm (fun z => ok.own_there z hx) ⟨dx, [], upd_same, rfl⟩
    refine ⟨H0, mm ++ [x], .mrf μ.length :: ds, μ ++ [.ins C []], ok3.g, ⟨_, _, rfl, ⟨x, by rw [← ok.g.mu.len, List.getElem?_append_right (Nat.le_refl _), Nat.sub_self]; rfl, rfl⟩, by rw [List.append_nil]; exact Dps.mono .refl ⟨[x], rfl⟩ _ dv⟩, hl, ?_⟩
    cases q : m (.mrf μ.length :: ds) (μ ++ [.ins C []]) with
    | no => rw [q] at en; exact en.elim
    | exc y μ' => rw [q] at en; exact en.elim
    | ok d μ' =>
      rw [q] at en
      cases d with
      | non =>
        replace en : EndV S W H0p Hp mmp σ ρp Q (match madeF C μ.length μ' with
          | some (fs, μ2) => .ok (.frs (.obj C fs)) ρ μ2
          | none => .no) := en
        intro v H0' H' mm' g n2 dn
        refine ⟨dn, ?_⟩
        cases q2 : madeF C μ.length μ' with
        | none => rw [q2] at en; exact en.elim
        | some fm =>
          obtain ⟨fs, μ2⟩ := fm
          rw [q2] at en
          obtain ⟨ok4, nx4, h0, hm', no, oo⟩ := unmake ok hx sub g n2 q2
          exact en (.ref x) H0' H' mm ok4 (nx.trans ow nx4) ow ho ⟨x, rfl, nx.back x hx, h0, hm', no, oo⟩
      | _ => exact en.elim
  · rw [if_neg hl] at en; exact en.elim
end
end DL
set_option maxRecDepth 100000
set_option maxHeartbeats 2000000
/-! f-strings, starred displays, several names at once, keywords. -/
namespace DL
open PySem PySem.Spec L2 NdefX
open PyProof.Rows (envOfC)

/-! ### f'..' -/
def fmtD : D → Option D
  | .str y => if y.length ≤ sizeLine then some (.str y) else none
  | .int i => if i.natAbs.log2 < 1920 then some (.str (toString i)) else none
  | _ => none
def gFmt (g : EF Vl) : EF Vl := g1 (h1 fmtD) g
def joinV (acc : Str) (k : Str → EF Vl) : Vl → EF Vl
  | .val (.str y) => if (acc ++ y).length ≤ sizeLine then k (acc ++ y) else stuck
  | _ => stuck
def gJs : List (EF Vl) → Str → EF Vl
  | [], acc => ret (.val (.str acc))
  | g :: gs, acc => bnd (gFrz g) (joinV acc (gJs gs))
def gJoin (gs : List (EF Vl)) : EF Vl := gJs gs Str.empty
section
variable {S : Sta} {W : WX} {X : Cx} {e v1 v2 : Expr} {es rest : List Expr} {g : EF Vl} {gs : List (EF Vl)} {pos : Pos}
theorem e_fmt (he : PE X e (rd S W g)) : PE X (.FormattedValue e (-1) none pos) (rd S W (gFmt g)) :=
  PE.weak (pe_fmt he) fun σ H Q h => t_one (r1 := fun x H1 Q => (∃ y : Str, x = .str y ∧ y.length ≤ sizeLine ∧ Q (.str y) H1) ∨ ∃ i : Int, x = .int i ∧ i.natAbs.log2 < 1920 ∧ Q (.str (toString i)) H1) (fun x dx H0 H mm μ σ ρ Q ok rx en => by
    obtain ⟨d, ed, en⟩ := okD_some en
    cases dx with
    | str y =>
      replace ed : (if y.length ≤ sizeLine then some (D.str y) else none) = some d := ed
      split at ed
      · rename_i hl
        cases ed
        exact .inl ⟨y, rx, hl, fin_val ok en rfl⟩
      · cases ed
    | int i =>
      replace ed : (if i.natAbs.log2 < 1920 then some (D.str (toString i)) else none) = some d := ed
      split at ed
      · rename_i hl
        cases ed
        exact .inr ⟨i, rx, hl, fin_val ok en rfl⟩
      · cases ed
    | _ => cases ed) h
theorem j_nil : PJ X [] (([] : List (EF Vl)).map fun g => rd S W (gFrz g)) := .nil
theorem j_cons (he : PE X e (rd S W g)) (h : PJ X es (gs.map fun g => rd S W (gFrz g))) : PJ X (e :: es) ((g :: gs).map fun g => rd S W (gFrz g)) := .cons (e_frz he) h
theorem t_js : ∀ {gs : List (EF Vl)} {acc : Str} {σ : St} {H : Hp} {Q : VK}, rd S W (gJs gs acc) σ H Q → tJs (gs.map fun g => rd S W (gFrz g)) acc σ H fun out H1 => Q (.str out) H1
  | [], acc, σ, H, Q, h => by
    obtain ⟨H0, mm, ρ, μ, ok, en⟩ := h
    exact en (.str acc) H0 H mm ok .refl .refl .refl rfl
  | g :: gs, acc, σ, H, Q, h => by
    refine rd_mono (rk_push (k := knV S) stay0 (rk_start h)) fun v H1 h1 => ?_
    obtain ⟨H0p, Hp, mmp, ρp, H0, mm, ρ, μ, ⟨_, x⟩, ok, nx, ow, ho, ⟨_, vx⟩, en⟩ := h1
    have vx : VlOk S Hp H0 H1 mm σ ρ v x := vx
    replace en : EndV S W H0p Hp mmp σ ρp Q (joinV acc (gJs gs) x ρ μ) := en
    cases x with
    | frs d => exact en.elim
    | slt i => exact en.elim
    | val d =>
      cases d with
      | str y =>
        replace en : EndV S W H0p Hp mmp σ ρp Q ((if (acc ++ y).length ≤ sizeLine then gJs gs (acc ++ y) else stuck : EF Vl) ρ μ) := en
        by_cases hl : (acc ++ y).length ≤ sizeLine
        · rw [if_pos hl] at en
          exact ⟨y, vx, hl, t_js ⟨H0, mm, ρ, μ, ok, en.later nx ow ho⟩⟩
        · rw [if_neg hl] at en; exact en.elim
      | _ => exact en.elim
theorem e_joined (h : PJ X (v1 :: v2 :: rest) (gs.map fun g => rd S W (gFrz g))) : PE X (.JoinedStr (v1 :: v2 :: rest) pos) (rd S W (gJoin gs)) := PE.weak (pe_joined h) fun _ _ _ q => t_js q
theorem e_joined1 (he : PE X e (rd S W g)) : PE X (.JoinedStr [e] pos) (rd S W g) := pe_joined1 he

/-! ### (a, *b) -/
def starV (t : EF (List D)) : Vl → EF (List D)
  | .val d => (match (match d with
    | .lst ds => some ds
    | .scr ds => some ds
    | .tup ds => some ds
    | _ => none) with
    | some ds => bnd t fun es => ret (ds ++ es)
    | none => stuck)
  | _ => stuck
def aStar (g : EF Vl) (t : EF (List D)) : EF (List D) := bnd (gFrz g) (starV t)
theorem a_star {p : Pos} {t : EF (List D)} (hK : X.K = S.K) (he : PE X e (rd S W g)) (hr : PA X es (ra S W t)) (hs : starEach (.Starred e p :: es) X.env = (true, eval e X.env) :: starEach es X.env := by rfl) : PA X (.Starred e p :: es) (ra S W (aStar g t)) := by
  refine PA.weak (StX.pa_star (e_frz he) hr hs) fun σ H Q h => ?_
  rw [hK]
  refine rd_mono (rk_push (k := knV S) stay0 (rk_start h)) fun v H1 h1 => ?_
  obtain ⟨H0p, Hp, mmp, ρp, H0, mm, ρ, μ, ⟨u, x⟩, ok, nx, ow, ho, pa, en⟩ := h1
  have vx : VlOk S Hp H0 H1 mm σ ρ v x := pa.2
  replace en : EndK W (knA S) H0p Hp mmp σ ρp Q (starV t x ρ μ) := en
  have go : ∀ {ds : List D} {a : Addr} {vs : List V}, v = .ref a → (SqT S.K H1 a vs ∨ SqL S.K H1 a vs) → Dps S H0 mm vs ds → EndK W (knA S) H0p Hp mmp σ ρp Q (bnd t (fun es => ret (ds ++ es)) ρ μ) →
      ∃ p xs, v = V.ref p ∧ (SqT S.K H1 p xs ∨ SqL S.K H1 p xs) ∧ ra S W t σ H1 fun ys H2 => Q (xs ++ ys) H2 := fun {ds a vs} ev hq dv en => by
    refine ⟨a, vs, ev, hq, ?_⟩
    have h2 : rk W (knA S) (fun _ H0 _ mm _ (_ : Unit) => Dps S H0 mm vs ds) (fun _ => bnd t fun es => ret (ds ++ es)) σ H1 Q := ⟨H0p, Hp, mmp, ρp, H0, mm, ρ, μ, (), ok, nx, ow, ho, dv, en⟩
    refine rd_mono (rk_push (k := knA S) (f := fun _ es => ret (ds ++ es)) (fun _ _ _ _ _ _ _ _ _ _ n _ _ q => q.nx n) h2) fun ys H2 h3 => ?_
    obtain ⟨H0p, Hp, mmp, ρp, H0, mm, ρ, μ, ⟨_, es⟩, ok, nx, ow, ho, ⟨d1, d2⟩, en⟩ := h3
    exact en _ H0 H2 mm ok nx ow ho (Dps.append d1 d2)
  cases x with
  | frs d => exact en.elim
  | slt i => exact en.elim
  | val d =>
    cases d with
    | lst ds =>
      obtain ⟨a, vs, ev, q, r⟩ := vx
      exact go ev (.inr (sqL_sub ok.g.sub (SqL.of q))) r en
    | scr ds =>
      obtain ⟨a, vs, ev, q, r⟩ := vx
      exact go ev (.inr (sqL_sub ok.g.sub q)) r en
    | tup ds =>
      obtain ⟨a, vs, ev, q, r⟩ := vx
      exact go ev (.inl (sqT_sub ok.g.sub q)) r en
    | _ => exact en.elim
end
end DL
set_option maxRecDepth 100000
set_option maxHeartbeats 2000000
/-! Keywords; several names at once. -/
namespace DL
open PySem PySem.Spec L2 NdefX
open PyProof.Rows (envOfC)

/-! ### keywords -/
section
variable {S : Sta} {W : WX} {X : Cx} {e : Expr} {es : List Expr} {g : EF Vl} {t tk : EF (List D)} {kws : List Keyword} {nm : Option Str} {kpos p pos : Pos} {x C : Str}
theorem kw_weak {t u : TA} (h : L2.PK X kws t) (w : ∀ σ H Q, u σ H Q → t σ H Q) : L2.PK X kws u := ⟨fun p pins s σ H Q I q => h.run p pins s σ H Q I (w σ H Q q)⟩
theorem kw_nil : L2.PK X [] (ra S W aNil) := kw_weak pk_nil fun σ H Q h => by
  obtain ⟨H0, mm, ρ, μ, ok, en⟩ := h
  exact en [] H0 H mm ok .refl .refl .refl rfl
theorem kw_cons (ha : PE X e (rd S W g)) (hr : L2.PK X kws (ra S W t)) : L2.PK X (⟨nm, e, kpos⟩ :: kws) (ra S W (aCons g t)) := by
  refine kw_weak (pk_cons (e_frz ha) hr) fun σ H Q h => ?_
  refine rd_mono (rk_push (k := knV S) stay0 (rk_start h)) fun v H1 h1 => rd_mono (rk_push (k := knA S) (stayV stay0) h1) fun vs H2 h2 => rk_go h2 fun G H0 mm ρ μ a pa ok en => ?_
  obtain ⟨⟨_, x⟩, ds⟩ := a
  obtain ⟨⟨_, vx⟩, vds⟩ := pa
  have vx : VlOk S G H0 H2 mm σ ρ v x := vx
  have vds : Dps S H0 mm vs ds := vds
  cases x with
  | val d => exact en (v :: vs) H0 H2 mm ok .refl .refl .refl ⟨v, vs, rfl, vx, vds⟩
  | frs d => exact en.elim
  | slt i => exact en.elim
end
/-- in the order of the parameters: the positional ones, then the keywords' by their places -/
def ordK {α : Type} (ix : List Nat) (us ws : List α) : List α := us ++ ix.filterMap (ws[·]?)
theorem ordK_vals {ix : List Nat} {vs zs : List V} {us ws : List Value} (r : Vals vs us) (rz : Vals zs ws) : Vals (ordK ix vs zs) (ordK ix us ws) := by
  unfold ordK
  refine r.append ?_
  induction ix with
  | nil => exact .nil
  | cons i ix ih =>
    rw [List.filterMap_cons, List.filterMap_cons]
    cases q : zs[i]? with
    | none =>
      have q2 : ws[i]? = none := by
        rw [List.getElem?_eq_none_iff] at q ⊢
        rw [← rz.length]; exact q
      rw [q2]
      exact ih
    | some z =>
      obtain ⟨u, hu, rv⟩ := rz.get q
      rw [hu]
      exact .cons rv ih
theorem ordK_dps {S : Sta} {H0 : Hp} {mm : List Addr} {ix : List Nat} {vs zs : List V} {ds es : List D} (r : Dps S H0 mm vs ds) (rz : Dps S H0 mm zs es) : Dps S H0 mm (ordK ix vs zs) (ordK ix ds es) := by
  unfold ordK
  refine r.append ?_
  induction ix with
  | nil => rfl
  | cons i ix ih =>
    rw [List.filterMap_cons, List.filterMap_cons]
    cases q : es[i]? with
    | none =>
      have q2 : zs[i]? = none := by
        rw [List.getElem?_eq_none_iff] at q ⊢
        rw [rz.length]; exact q
      rw [q2]
      exact ih
    | some z =>
      obtain ⟨u, hu, rv⟩ := rz.get q
      rw [hu]
      exact ⟨u, _, rfl, rv, ih⟩
/-- what is known of a def that is called with keywords -/
structure CalK (P : Program) (w : World) (S : Sta) (mg : Str → Option Value) (base : Heap) (k : Nat) (x : Str) (n0 : Nat) (ks : List Str) (ix : List Nat) (n : Nat) (m : DF) : Prop where
  ex : ∃ (f : Addr) (fd : FuncData) (ps : List Str), FnOk P w S.K mg base (L2.CX P w) k f fd ps (spF S n m) ∧ mg x = some (.ref f) ∧ PySem.W.keepIn S.K (.ref f) = true ∧ KBn S.K fd ps n0 ks (ordK ix) (ordK ix)
theorem kbn_of {K : PySem.W.Frag} {x qual : Str} {params : Arguments} {body : List Stmt} {scope : Scope} {f : Addr} {fd : FuncData} {ps ks : List Str} {n0 : Nat} {ix : List Nat} (F : FunD K x qual params body scope [] [] f fd)
    (h : ∀ (kV doc pm : Value) (an : Option Addr) (cdv ct : Value) (us ws : List Value), us.length = n0 → ws.length = ks.length → bindArgs (PySem.W.fnOf x qual params body scope .none kV doc pm an cdv ct) ⟨us, ks.zip ws⟩ = pure (ps.zip (ordK ix us ws))) : KBn K fd ps n0 ks (ordK ix) (ordK ix) := by
  obtain ⟨oc, od, dV, kV, doc, pm, an, cdv, ct, osl, rfl, lk, hcd, hD, hK⟩ := F.ex
  refine ⟨fun s us ws X l1 l2 => ?_, fun r rz => ordK_vals r rz⟩
  rcases hD with ⟨_, rfl⟩ | ⟨e, _⟩
  · exact .of_eq (h kV doc pm an cdv ct us ws l1 l2)
  · exact absurd rfl e
def callK (n0 n1 : Nat) (ix : List Nat) (n : Nat) (m : DF) (ds es : List D) : EF Vl := fun ρ μ => if ds.length = n0 ∧ es.length = n1 then callV n m (ordK ix ds es) ρ μ else .no
def gCallK (n0 n1 : Nat) (ix : List Nat) (n : Nat) (m : DF) (t tk : EF (List D)) : EF Vl := bnd t fun ds => bnd tk fun es => callK n0 n1 ix n m ds es
section
variable {S : Sta} {W : WX} {X : Cx} {e : Expr} {es : List Expr} {g : EF Vl} {t tk : EF (List D)} {kws : List Keyword} {p pos : Pos} {x : Str} {ks : List Str} {ix : List Nat} {n0 n k j : Nat} {m : DF} {σ : St} {H : Hp} {Q : VK}
theorem t_kw {A : Type} {PA : PK A} {vs zs : List V} {f : A → EF Vl} {H2 : Hp} {n1 : Nat} (hw : ∀ cls od σ σ' H, W cls od σ H → W cls od σ' H) (h : rk W (knV S) (PVk (knA S) σ (PVk (knA S) σ P0 vs) zs) (fun a => callK n0 n1 ix n m a.1.2 a.2) σ H2 Q) :
    vs.length = n0 ∧ zs.length = n1 ∧ spF S n m (ordK ix vs zs) H2 Q (fun cls od H => ∀ σ, W cls od σ H) := by
  obtain ⟨H0p, Hp, mmp, ρp, H0, mm, ρ, μ, ⟨⟨_, ds⟩, es⟩, ok, nx, ow, ho, ⟨⟨_, d1⟩, d2⟩, en⟩ := h
  have d1 : Dps S H0 mm vs ds := d1
  have d2 : Dps S H0 mm zs es := d2
  replace en : EndV S W H0p Hp mmp σ ρp Q (if ds.length = n0 ∧ es.length = n1 then callV n m (ordK ix ds es) ρ μ else .no) := en
  by_cases hc : ds.length = n0 ∧ es.length = n1
  · rw [if_pos hc] at en
    refine ⟨by rw [d1.length]; exact hc.1, by rw [d2.length]; exact hc.2, ?_⟩
    obtain ⟨hl, en⟩ := call_fin' ok nx ow ho en
    refine ⟨H0, mm, _, μ, ok.g, ordK_dps d1 d2, hl, ?_⟩
    revert en
    cases m (ordK ix ds es) μ with
    | no => exact id
    | ok d μ' => exact id
    | exc x μ' => exact fun en' cls od H0' H' mm' g n xr σ' => hw cls od σ σ' H' (en' cls od H0' H' mm' g n xr)
  · rw [if_neg hc] at en; exact en.elim
/-- f(k = v, ..) -/
theorem e_callK0 (c : CalK X.prog X.w S X.mg X.base k x 0 ks ix n m) (hK : X.K = S.K) (hr : Room j X.A) (hk : k ≤ j) (tk' : Takes X W) (hw : ∀ cls od σ σ' H, W cls od σ H → W cls od σ' H) (hg : Gl X x) (hkw : L2.PK X kws (ra S W tk))
    (hall : (backToKw pos (keywordEach kws X.env)).all (·.1.isSome) = true := by rfl) (hks : (backToKw pos (keywordEach kws X.env)).filterMap (·.1) = ks := by rfl) (hdb : (x == ("__debug__" : Str)) = false := by decide)
    (hpl : ((backTo pos (starEach [] X.env)).any (·.1) || (backToKw pos (keywordEach kws X.env)).any (·.1.isNone)) = false := by rfl) :
    PE X (.Call (.Name x p) [] kws pos) (rd S W (gCallK 0 ks.length ix n m aNil tk)) := by
  obtain ⟨f, fd, ps, F, hm, kp, b⟩ := c.ex
  rw [← hK] at F kp b
  refine ⟨fun pins s σ H Q I h => ?_⟩
  refine wpAny_Call_Name_kw (ld_glob I hg hm ?_ hdb)
  refine PySem.W.callWith_KW0 (h₀ := X.base) I.ok.mod.kin kp hall ?_ hpl
  have h1 : rk W (knV S) (PVk (knA S) σ P0 []) (fun a : Unit × List D => bnd tk fun es => callK 0 ks.length ix n m a.2 es) σ H Q := by
    obtain ⟨H0, mm, ρ, μ, ok, en⟩ := h
    exact ⟨H0, H, mm, ρ, H0, mm, ρ, μ, ((), []), ok, .refl, .refl, .refl, ⟨trivial, rfl⟩, en⟩
  refine thn (hkw.run pos pins s σ H _ I (rk_push (k := knA S) (stayV stay0) h1)) fun ws s2 ⟨zs, H2, I2, rz, q2⟩ => ⟨I2.kIn, ?_⟩
  rw [hks]
  obtain ⟨l1, l2, sp⟩ := t_kw (A := Unit) (PA := P0) (f := fun _ => stuck) hw q2
  exact run_fnN (us := []) (vs := []) F (hr.mono hk) b (passes_call tk' fun cls d σ H h => h σ) I2 .nil rz rfl l2 sp
/-- f(e, .., k = v, ..) -/
theorem e_callK {x : Str} (c : CalK X.prog X.w S X.mg X.base k x n0 ks ix n m) (hK : X.K = S.K) (hr : Room j X.A) (hk : k ≤ j) (tk' : Takes X W) (hw : ∀ cls od σ σ' H, W cls od σ H → W cls od σ' H) (hg : Gl X x) (ha : PA X (e :: es) (ra S W t)) (hkw : L2.PK X kws (ra S W tk))
    (hall : (backToKw pos (keywordEach kws X.env)).all (·.1.isSome) = true := by rfl) (hks : (backToKw pos (keywordEach kws X.env)).filterMap (·.1) = ks := by rfl)
    (hdb : (x == ("__debug__" : Str)) = false := by decide) (he : starEach (e :: es) X.env = (false, eval e X.env) :: starEach es X.env := by rfl)
    (hpl : ((backTo pos (starEach (e :: es) X.env)).any (·.1) || (backToKw pos (keywordEach kws X.env)).any (·.1.isNone)) = false := by rfl) :
    PE X (.Call (.Name x p) (e :: es) kws pos) (rd S W (gCallK n0 ks.length ix n m t tk)) := by
  obtain ⟨f, fd, ps, F, hm, kp, b⟩ := c.ex
  rw [← hK] at F kp b
  refine PE.weak (pe_callN (E := fun cls od H => ∀ σ, W cls od σ H) F (hr.mono hk) hg hm kp b (passes_call tk' fun cls d σ H h => h σ) ha hkw hall hks hdb he hpl) fun σ H Q h => ?_
  refine rd_mono (rk_push (k := knA S) stay0 (rk_start h)) fun vs H1 h1 => rd_mono (rk_push (k := knA S) (stayV stay0) h1) fun zs H2 h2 => ?_
  exact t_kw (A := Unit) (PA := P0) (f := fun _ => stuck) hw h2
/-- f() -/
theorem e_call0 (c : Cal X.prog X.w S X.mg X.base k x n m) (hK : X.K = S.K) (hr : Room j X.A) (hk : k ≤ j) (tk : Takes X W) (hw : ∀ cls od σ σ' H, W cls od σ H → W cls od σ' H) (hg : Gl X x) (hdb : (x == ("__debug__" : Str)) = false := by decide) :
    PE X (.Call (.Name x p) [] [] pos) (rd S W (gCall n m aNil)) := by
  obtain ⟨f, fd, ps, F, hm, kp, b, _⟩ := c.ex
  rw [← hK] at F kp b
  refine PE.weak (pe_call0 (dvs := []) (E := fun cls od H => ∀ σ, W cls od σ H) F (hr.mono hk) hg hm kp b .nil (passes_call tk fun cls d σ H h => h σ) hdb) fun σ H Q h => ?_
  obtain ⟨H0, mm, ρ, μ, ok, en⟩ := h
  obtain ⟨hl, en⟩ := call_fin' ok .refl .refl .refl en
  refine ⟨H0, mm, [], μ, ok.g, rfl, hl, ?_⟩
  revert en
  cases m [] μ with
  | no => exact id
  | ok d μ' => exact id
  | exc x μ' => exact fun en' cls od H0' H' mm' g n xr σ' => hw cls od σ σ' H' (en' cls od H0' H' mm' g n xr)
end
end DL
set_option maxRecDepth 100000
set_option maxHeartbeats 2000000
/-! Several names at once: a, b = x, y. -/
namespace DL
open PySem PySem.Spec L2 NdefX

/-- two new things stand apart -/
def Apart (vs : List V) (xs : List Vl) : Prop := ∀ (i j : Nat) (a : Addr) (d d' : D), i < j → xs[i]? = some (.frs d) → xs[j]? = some (.frs d') → vs[i]? = some (.ref a) → vs[j]? = some (.ref a) → False
def knP (S : Sta) : Knd S (List Vl) (List V) := ⟨fun G H0 H mm σ ρ vs xs => VlsOk S G H0 H mm σ ρ vs xs ∧ Apart vs xs, fun n w k h => ⟨h.1.nx n w k, h.2⟩, fun g h => ⟨h.1.from g, h.2⟩⟩
abbrev rp (S : Sta) (W : WX) (g : EF (List Vl)) : TA := rdK W (knP S) g
def vNil : EF (List Vl) := ret []
def vCons (g : EF Vl) (t : EF (List Vl)) : EF (List Vl) := bnd g fun x => bnd t fun xs => ret (x :: xs)
def slotV : Vl → Option Sl
  | .val d => some (.fz d)
  | .frs d => some (.ow d)
  | .slt _ => none
/-- the slots is hold xs -/
def putVs : List Nat → List Vl → SF
  | [], [], ρ, μ => .nx ρ μ
  | i :: is, x :: xs, ρ, μ => (match slotV x with
    | some s => putVs is xs (ρ.set i s) μ
    | none => .no)
  | _, _, _, _ => .no
def sPar (is : List Nat) (t : EF (List Vl)) : SF := sBnd t (putVs is)
def setAll (σ : St) : List Nat → List V → St
  | i :: is, v :: vs => setAll (σ.set i (some v)) is vs
  | _, _ => σ
section
variable {S : Sta} {W : WX} {X : Cx} {e : Expr} {es : List Expr} {g : EF Vl} {t : EF (List Vl)}
theorem vls_get {G H0 H : Hp} {mm : List Addr} {σ : St} {ρ : Env} : ∀ {xs : List Vl} {vs : List V} {i : Nat} {x : Vl}, VlsOk S G H0 H mm σ ρ vs xs → xs[i]? = some x → ∃ v, vs[i]? = some v ∧ VlOk S G H0 H mm σ ρ v x
  | [], _, _, _, _, e => by simp at e
  | x :: xs, _, 0, y, h, e => by
    obtain ⟨v, r, rfl, q, t⟩ := h
    simp at e
    subst e
    exact ⟨v, by simp, q⟩
  | x :: xs, _, i + 1, y, h, e => by
    obtain ⟨v, r, rfl, q, t⟩ := h
    obtain ⟨w, e1, e2⟩ := vls_get (i := i) t (by simpa using e)
    exact ⟨w, by simpa using e1, e2⟩
theorem v_nil : PA X [] (rp S W vNil) := by
  refine PA.weak pa_nil fun σ H Q h => ?_
  obtain ⟨H0, mm, ρ, μ, ok, en⟩ := h
  exact en [] H0 H mm ok .refl .refl .refl ⟨rfl, fun i j a d d' _ e => by simp at e⟩
theorem v_cons (ha : PE X e (rd S W g)) (hr : PA X es (rp S W t)) (hs : starEach (e :: es) X.env = (false, eval e X.env) :: starEach es X.env := by rfl) : PA X (e :: es) (rp S W (vCons g t)) := by
  refine PA.weak (pa_cons ha hr hs) fun σ H Q h => ?_
  refine rd_mono (rk_push (k := knV S) stay0 (rk_start h)) fun v H1 h1 => ?_
  obtain ⟨H0p, Hp, mmp, ρp, H0, mm, ρ, μ, ⟨_, x⟩, ok, nx, ow, ho, ⟨_, vx⟩, en⟩ := h1
  have vx : VlOk S Hp H0 H1 mm σ ρ v x := vx
  replace en : EndK W (knP S) H0p Hp mmp σ ρp Q (bnd t (fun xs => ret (x :: xs)) ρ μ) := en
  unfold bnd at en
  refine ⟨H0, mm, ρ, μ, ok, ?_⟩
  cases q : t ρ μ with
  | no => rw [q] at en; exact en
  | exc y ρ' μ' =>
    rw [q] at en
    intro cls od H0' H' mm' ok' nx' ow' xr
    exact en cls od H0' H' mm' ok' (nx.trans ow nx') (OwN.trans nx ow ow') xr
  | ok xs ρ' μ' =>
    rw [q] at en
    intro vs H0' H' mm' ok' nx' ow' ho' vsx
    obtain ⟨vs1, ap⟩ := vsx
    refine en (v :: vs) H0' H' mm' ok' (nx.trans ow nx') (OwN.trans nx ow ow') (ho.trans ho') ⟨⟨v, vs, rfl, vx.nx nx' ow' ho', vs1.from nx.back⟩, fun i j a d d' hij e1 e2 e3 e4 => ?_⟩
    cases j with
    | zero => omega
    | succ j =>
      have f2 : xs[j]? = some (.frs d') := by simpa using e2
      have f4 : vs[j]? = some (.ref a) := by simpa using e4
      cases i with
      | zero =>
        simp at e1 e3
        subst e1
        subst e3
        obtain ⟨w, w1, w2⟩ := vls_get vs1 f2
        rw [f4] at w1
        cases w1
        obtain ⟨b, eb, gb, _⟩ := w2
        cases eb
        obtain ⟨b, eb, _, _, _, _, q2⟩ := vx
        cases eb
        obtain ⟨o, eo, _⟩ := q2.there
        rw [eo] at gb
        cases gb
      | succ i => exact ap i j a d d' (by omega) (by simpa using e1) f2 (by simpa using e3) f4
theorem put_step {G H0 H : Hp} {mm : List Addr} {μ : Mu} {σ : St} {ρ : Env} {i : Nat} {v : V} {x : Vl} {s : Sl} (ok : Ok S H0 H mm μ σ ρ) (va : VlOk S G H0 H mm σ ρ v x) (hs : slotV x = some s) :
    Ok S H0 H mm μ (σ.set i (some v)) (ρ.set i s) ∧ ∀ b, Own (σ.set i (some v)) (ρ.set i s) b → Own σ ρ b ∨ (v = .ref b ∧ G b = none ∧ ∃ d, x = .frs d) := by
  cases x with
  | slt i => cases hs
  | val d =>
    cases hs
    refine ⟨ok.put_fz va, fun b hb => ?_⟩
    rcases own_set hb with z | ⟨⟨_, z⟩, _⟩
    · exact .inl z
    · cases z
  | frs d =>
    cases hs
    obtain ⟨a, rfl, hg, h0, hm, no, q⟩ := va
    refine ⟨ok.put_ow h0 hm no q, fun b hb => ?_⟩
    rcases own_set hb with z | ⟨_, z⟩
    · exact .inl z
    · cases z
      exact .inr ⟨rfl, hg, d, rfl⟩
theorem vls_put {G H0 H : Hp} {mm : List Addr} {σ : St} {ρ : Env} {i : Nat} {v : V} {s : Sl} {ns : List Nat} {μ : Mu} : ∀ {xs : List Vl} {vs : List V}, (∀ x ∈ xs, slotV x ≠ none) → (∀ (j : Nat) (d : D) (b : Addr), xs[j]? = some (.frs d) → vs[j]? = some (.ref b) → Own (σ.set i (some v)) (ρ.set i s) b → Own σ ρ b) → VlsOk S G H0 H mm σ ρ vs xs → VlsOk S G H0 H mm (σ.set i (some v)) (ρ.set i s) vs xs
  | [], _, _, _, h => h
  | x :: xs, _, hn, ho, ⟨w, r, e, q, t⟩ => by
    subst e
    refine ⟨w, r, rfl, ?_, vls_put (ns := ns) (μ := μ) (fun y hy => hn y (List.mem_cons_of_mem _ hy)) (fun j d b e1 e2 => ho (j + 1) d b (by simpa using e1) (by simpa using e2)) t⟩
    cases x with
    | slt k => exact absurd rfl (hn (.slt k) (by simp))
    | val d => exact q
    | frs d =>
      obtain ⟨a, ea, hg, h0, hm, no, q⟩ := q
      exact ⟨a, ea, hg, h0, hm, fun z => no (ho 0 d a (by simp) (by simp [ea]) z), q⟩
theorem putVs_slots : ∀ {is : List Nat} {xs : List Vl} {ρ ρ' : Env} {μ μ' : Mu}, putVs is xs ρ μ = .nx ρ' μ' → ∀ x ∈ xs, slotV x ≠ none
  | [], [], _, _, _, _, _, x, h => by cases h
  | i :: is, y :: xs, ρ, ρ', μ, μ', e, x, h => by
    unfold putVs at e
    cases q : slotV y with
    | none => rw [q] at e; cases e
    | some s =>
      rw [q] at e
      rcases List.mem_cons.mp h with z | z
      · rw [z, q]; simp
      · exact putVs_slots e x z
  | [], _ :: _, _, _, _, _, e, _, _ => by cases e
  | _ :: _, [], _, _, _, _, e, _, _ => by cases e
theorem puts_go {G H0 H : Hp} {mm : List Addr} {μ : Mu} : ∀ {is : List Nat} {xs : List Vl} {vs : List V} {σ : St} {ρ ρ' : Env} {μ' : Mu}, Ok S H0 H mm μ σ ρ → VlsOk S G H0 H mm σ ρ vs xs → Apart vs xs → putVs is xs ρ μ = .nx ρ' μ' →
    μ' = μ ∧ Ok S H0 H mm μ (setAll σ is vs) ρ' ∧ ∀ b, Own (setAll σ is vs) ρ' b → Own σ ρ b ∨ G b = none
  | [], [], vs, σ, ρ, ρ', μ', ok, h, _, e => by
    cases e
    cases (show vs = [] from h)
    exact ⟨rfl, ok, fun b hb => .inl hb⟩
  | i :: is, x :: xs, vs, σ, ρ, ρ', μ', ok, h, ap, e => by
    have e0 := e
    unfold putVs at e
    cases q : slotV x with
    | none => rw [q] at e; cases e
    | some s =>
      rw [q] at e
      obtain ⟨v, r, rfl, vx, t⟩ := h
      obtain ⟨ok1, o1⟩ := put_step (i := i) ok vx q
      have t1 : VlsOk S G H0 H mm (σ.set i (some v)) (ρ.set i s) r xs := vls_put (ns := is) (μ := μ) (fun y hy => putVs_slots e y hy) (fun j d b e1 e2 hb => by
        rcases o1 b hb with z | ⟨z, _, d', z2⟩
        · exact z
        · exact (ap 0 (j + 1) b d' d (by omega) (by simp [z2]) (by simpa using e1) (by simp [z]) (by simpa using e2)).elim) t
      obtain ⟨em, ok2, o2⟩ := puts_go ok1 t1 (fun a b c d d' hab e1 e2 e3 e4 => ap (a + 1) (b + 1) c d d' (by omega) (by simpa using e1) (by simpa using e2) (by simpa using e3) (by simpa using e4)) e
      refine ⟨em, ok2, fun b hb => ?_⟩
      rcases o2 b hb with z | z
      · rcases o1 b z with z | ⟨_, z, _⟩
        · exact .inl z
        · exact .inr z
      · exact .inr z
  | [], _ :: _, _, _, _, _, _, _, _, _, e => by cases e
  | _ :: _, [], _, _, _, _, _, _, _, _, e => by cases e
theorem putVs_res : ∀ {is : List Nat} {xs : List Vl} {ρ : Env} {μ : Mu}, putVs is xs ρ μ = .no ∨ ∃ ρ', putVs is xs ρ μ = .nx ρ' μ ∧ is.length = xs.length
  | [], [], ρ, μ => .inr ⟨ρ, rfl, rfl⟩
  | i :: is, x :: xs, ρ, μ => by
    unfold putVs
    cases slotV x with
    | none => exact .inl rfl
    | some s =>
      rcases putVs_res (is := is) (xs := xs) (ρ := ρ.set i s) (μ := μ) with h | ⟨ρ', h, l⟩
      · exact .inl h
      · exact .inr ⟨ρ', h, by rw [List.length_cons, List.length_cons, l]⟩
  | [], _ :: _, _, _ => .inl rfl
  | _ :: _, [], _, _ => .inl rfl
theorem vls_len {G H0 H : Hp} {mm : List Addr} {σ : St} {ρ : Env} : ∀ {xs : List Vl} {vs : List V}, VlsOk S G H0 H mm σ ρ vs xs → vs.length = xs.length
  | [], _, h => by cases (show _ = [] from h); rfl
  | x :: xs, _, ⟨v, r, e, _, t⟩ => by subst e; rw [List.length_cons, List.length_cons, vls_len t]
theorem par_go {is : List Nat} {σ : St} {H : Hp} {D : Ends} {Z : List V → Hp → Prop} (z : ∀ vs H1, D.nx (setAll σ is vs) H1 → vs.length = is.length → Z vs H1) (h : rs S W (sPar is t) D σ H) : rp S W t σ H Z := by
  refine rd_mono (rs_bnd (k := knP S) h) fun vs H1 ⟨H0p, Hp, mmp, ρp, H0, mm, ρ, μ, xs, ok, nx, ow, ho, va, en⟩ => ?_
  obtain ⟨v1, ap⟩ := va
  rcases putVs_res (is := is) (xs := xs) (ρ := ρ) (μ := μ) with q | ⟨ρ', q, l⟩
  · rw [q] at en; exact en.elim
  · rw [q] at en
    obtain ⟨em, ok2, o2⟩ := puts_go (is := is) ok v1 ap q
    refine z vs H1 (en _ H0 H1 mm ok2 nx fun b hb => ?_) (by rw [vls_len v1, l])
    rcases o2 b hb with w | w
    · exact ow b w
    · exact .inr w
/-- a, b = x, y -/
theorem s_par2 {i j : Nat} {x y : Str} {a b : Expr} {px py pt pos : Pos} {kt k2 pt2} (hc : X.calm = true) (hN : X.N.Nodup) (hi : X.N[i]? = some x) (hj : X.N[j]? = some y) (hij : i ≠ j)
    (hx : X.env.scope.names.lookup x = some .local) (hy : X.env.scope.names.lookup y = some .local) (ha : PA X [a, b] (rp S W t))
    (hw : swappedStores [.Tuple [.Name x px, .Name y py] kt pt] (.Tuple [a, b] k2 pt2) X.env = pure (some [x, y]) := by rfl)
    (hs : swapsWithSole [.Tuple [.Name x px, .Name y py] kt pt] (.Tuple [a, b] k2 pt2) pos.line X.env = pure false := by rfl) :
    PS X (.Assign [.Tuple [.Name x px, .Name y py] kt pt] (.Tuple [a, b] k2 pt2) pos) (rs S W (sPar [i, j] t)) :=
  PS.weak (ps_par hc hN hi hj hij hx hy ha hw hs) fun D σ H h => par_go (fun vs H1 q l => by
    match vs, l, q with
    | [v, w], _, q => exact ⟨v, w, rfl, q⟩) h
/-- a, b, c = x, y, z -/
theorem s_par3 {i j l : Nat} {x y z : Str} {a b c : Expr} {px py pz pt pos : Pos} {kt k2 pt2} (hc : X.calm = true) (hN : X.N.Nodup) (hi : X.N[i]? = some x) (hj : X.N[j]? = some y) (hl : X.N[l]? = some z) (hij : i ≠ j) (hil : i ≠ l) (hjl : j ≠ l)
    (hx : X.env.scope.names.lookup x = some .local) (hy : X.env.scope.names.lookup y = some .local) (hz : X.env.scope.names.lookup z = some .local) (ha : PA X [a, b, c] (rp S W t))
    (hw : swappedStores [.Tuple [.Name x px, .Name y py, .Name z pz] kt pt] (.Tuple [a, b, c] k2 pt2) X.env = pure (some [x, y, z]) := by rfl)
    (hs : swapsWithSole [.Tuple [.Name x px, .Name y py, .Name z pz] kt pt] (.Tuple [a, b, c] k2 pt2) pos.line X.env = pure false := by rfl) :
    PS X (.Assign [.Tuple [.Name x px, .Name y py, .Name z pz] kt pt] (.Tuple [a, b, c] k2 pt2) pos) (rs S W (sPar [i, j, l] t)) :=
  PS.weak (ps_par3 hc hN hi hj hl hij hil hjl hx hy hz ha hw hs) fun D σ H h => par_go (fun vs H1 q l => by
    match vs, l, q with
    | [u, v, w], _, q => exact ⟨u, v, w, rfl, q⟩) h
end
end DL
set_option maxRecDepth 100000
set_option maxHeartbeats 2000000
/-! For the printed texts: defs that make lambdas, ways into the text, facts of names. -/
namespace DL
open PySem PySem.Spec L2 NdefX
open PyProof.Rows (envOfC)
section
variable {P : Program} {w : World} {mg : Str → Option Value} {base : Heap} {x qual : Str} {params : Arguments} {body : List Stmt} {scope : Scope} {dvs : List V} {kws : List (Str × V)} {f : Addr} {fd : FuncData} {S : Sta}
/-- def_ok, the def's code object told -/
theorem def_okC {N ps : List Str} {k : Nat} {sf : SF} {p : He.Defn} (F : FunD S.K x qual params body scope dvs kws (He.fAd S.K p) fd) (Sc : FnScope N ps scope)
    (hbody : ∀ (A : Around) (outer : List PySem.Env) (s : Shared) (H : Hp) (E : XK), Room k (A.deeper (envOfC qual scope s.heap.objs.size (He.fAd S.K p) (.ref (He.codeOf S.K p)))) →
      Takes (cxOf (L2.CX P w) P w S.K mg base N qual scope (He.fAd S.K p) (.ref (He.codeOf S.K p)) A outer s H E) (WE E) → PSs (cxOf (L2.CX P w) P w S.K mg base N qual scope (He.fAd S.K p) (.ref (He.codeOf S.K p)) A outer s H E) body (rs S (WE E) sf)) :
    FnOk P w S.K mg base (L2.CX P w) (k + 1) (He.fAd S.K p) fd ps (spF S ps.length (bodyF N.length sf)) := by
  obtain ⟨oc, od, dV, kV, doc, pm, an, cdv, ct, osl, e, lk, hcd, _, _⟩ := F.ex
  subst e
  obtain ⟨c, rfl⟩ := He.codeIn_ref hcd
  have ec : He.codeOf S.K p = c := He.codeOf_eq lk rfl
  rw [ec] at hbody
  refine fn_of lk hcd Sc (fun vs H Q E h => ?_) (fun A outer s H vs Q E hr h => ⟨_, hbody A outer s H E hr (takes_of rfl rfl rfl rfl), ?_⟩)
  · obtain ⟨H0, mm, ds, μ, g, dp, hl, _⟩ := h
    rw [dp.length, hl]
  · obtain ⟨H0, mm, ds, μ, g, dp, hl, en⟩ := h
    refine ⟨H0, mm, startE N.length ds, μ, start_ok g dp, ?_⟩
    unfold bodyF at en
    cases q : sf (startE N.length ds) μ with
    | no => rw [q] at en; exact en
    | bk ρ' μ' => rw [q] at en; exact en.elim
    | ct ρ' μ' => rw [q] at en; exact en.elim
    | nx ρ' μ' => rw [q] at en; exact fun σ' H0' H' mm' ok nx ow => en .non H0' H' mm' ok.g nx.start rfl
    | rt d ρ' μ' => rw [q] at en; exact fun v σ' H0' H' mm' ok nx ow dv => en v H0' H' mm' ok.g nx.start dv
    | exc y ρ' μ' => rw [q] at en; exact fun cls od σ' H0' H' mm' ok nx ow xr => en cls od H0' H' mm' ok.g nx.start xr
theorem cal_of {k n : Nat} {m : DF} {ps : List Str} (F : FunD S.K x qual params body scope [] [] f fd) (ok : FnOk P w S.K mg base (L2.CX P w) k f fd ps (spF S n m)) (hm : mg x = some (.ref f)) (hb : Binds S.K fd ps []) : Cal P w S mg base k x n m := by
  obtain ⟨oc, od, dV, kV, doc, pm, an, cdv, ct, osl, rfl, lk, hcd, hD, hK⟩ := F.ex
  exact ⟨f, _, ps, ok, hm, F.kp, hb, oc, od, osl, lk⟩
theorem Cal.mono {k j n : Nat} {m : DF} (c : Cal P w S mg base k x n m) (h : k ≤ j) : Cal P w S mg base j x n m := by
  obtain ⟨f, fd, ps, F, r⟩ := c.ex
  exact ⟨f, fd, ps, F.mono h, r⟩
theorem calk_of {k n n0 : Nat} {ks : List Str} {ix : List Nat} {m : DF} {ps : List Str} (F : FunD S.K x qual params body scope [] [] f fd) (ok : FnOk P w S.K mg base (L2.CX P w) k f fd ps (spF S n m)) (hm : mg x = some (.ref f)) (hb : KBn S.K fd ps n0 ks (ordK ix) (ordK ix)) : CalK P w S mg base k x n0 ks ix n m :=
  ⟨f, fd, ps, ok, hm, F.kp, hb⟩
end
/-! ### ways into the text -/
def kidsE : Expr → List Expr
  | .BoolOp _ vs _ => vs
  | .BinOp a _ b _ => [a, b]
  | .UnaryOp _ a _ => [a]
  | .Lambda _ b _ _ => [b]
  | .IfExp a b c _ => [a, b, c]
  | .ListComp e gs _ _ => e :: gs.flatMap fun g => g.target :: g.iter :: g.ifs
  | .Compare a _ cs _ => a :: cs
  | .Call f as ks _ => f :: (as ++ ks.map (·.value))
  | .FormattedValue e _ _ _ => [e]
  | .JoinedStr es _ => es
  | .Attribute e _ _ => [e]
  | .Subscript a b _ => [a, b]
  | .Starred e _ => [e]
  | .List es _ => es
  | .Tuple es _ _ => es
  | _ => []
def kidsS : Stmt → List Expr
  | .Return (some e) _ => [e]
  | .Assign ts v _ => ts ++ [v]
  | .AugAssign t _ v _ => [t, v]
  | .Expr e _ => [e]
  | .If t _ _ _ => [t]
  | .For t i _ _ _ => [t, i]
  | .While t _ _ _ => [t]
  | .Raise (some e) _ _ => [e]
  | _ => []
def blkS : Stmt → List Stmt
  | .If _ a b _ => a ++ b
  | .For _ _ b o _ => b ++ o
  | .While _ b o _ => b ++ o
  | .With _ b _ => b
  | .Try b hs o f _ => b ++ (hs.flatMap fun h => match h with | .ExceptHandler _ _ b _ => b) ++ o ++ f
  | .ClassDef _ _ _ b _ _ _ _ _ _ _ => b
  | .FunctionDef _ _ b _ _ _ _ _ _ _ => b
  | _ => []
def noE : Expr := .Constant .none 0 ⟨0, 0, 0, 0⟩
def goE (e : Expr) : List Nat → Expr
  | [] => e
  | i :: is => goE ((kidsE e).getD i noE) is
def goS (s : Stmt) : List Nat → Stmt
  | [] => s
  | i :: is => goS ((blkS s).getD i (.Pass ⟨0, 0, 0, 0⟩)) is
/-- the expression at a place: statements, then the statement's expression, then expressions -/
def atE (s : Stmt) (p : List Nat) (i : Nat) (q : List Nat) : Expr := goE ((kidsS (goS s p)).getD i noE) q
def lamP : Expr → Arguments
  | .Lambda a _ _ _ => a
  | _ => { posonlyargs := [], args := [], vararg := none, kwonlyargs := [], kw_defaults := [], kwarg := none, defaults := [] }
def lamB : Expr → Expr
  | .Lambda _ b _ _ => b
  | _ => noE
def lamSc : Expr → Scope
  | .Lambda _ _ s _ => s
  | _ => { kind := .function, names := [], isGenerator := false, isCoroutine := false }
def lamOf (q : Str) (e : Expr) (fr : List Str) : LamT := ⟨q, lamP e, lamB e, lamSc e, fr⟩
/-! ### names of the module -/
section
variable {S : Sta} {mg : Str → Option Value}
theorem cst_int {x : Str} {i : Int} (h : ∃ t, mg x = some (.int i t)) : Cst S mg x (.int i) := let ⟨t, e⟩ := h; ⟨.int i, _, e, ⟨t, rfl⟩, fun _ _ => rfl⟩
theorem cst_str {x : Str} {z : Str} (h : ∃ t, mg x = some (.str z t)) : Cst S mg x (.str z) := let ⟨t, e⟩ := h; ⟨.str z, _, e, ⟨t, rfl⟩, fun _ _ => rfl⟩
theorem cst_glo {x : Str} (h : mg x = some (.ref (He.ga S.K x))) : Cst S mg x (.glo x) := ⟨.ref (He.ga S.K x), _, h, rfl, fun _ _ => rfl⟩
theorem u65 {k : Nat} {A : Around} (r : Room k A) : A.units + 65 < cLine := by have := r.un; omega
end
end DL
set_option maxRecDepth 100000
set_option maxHeartbeats 2000000
/-! For the printed texts, more. -/
namespace DL
open PySem PySem.Spec L2 NdefX
open PyProof.Rows (envOfC)
/-- the promise of nothing -/
theorem fnok_no {P : Program} {w : World} {S : Sta} {mg : Str → Option Value} {base : Heap} {k : Nat} {f : Addr} {fd : FuncData} {ps : List Str} : FnOk P w S.K mg base (L2.CX P w) k f fd ps (spF S ps.length fun _ _ => .no) :=
  ⟨fun vs H Q E ⟨_, _, _, _, _, _, _, h⟩ => h.elim, fun A outer s H args us vs Q E _ _ _ _ ⟨_, _, _, _, _, _, _, h⟩ => h.elim⟩
end DL
set_option maxRecDepth 100000
set_option maxHeartbeats 2000000
/-! sorted. -/
namespace DL
open PySem PySem.Spec L2 NdefX
open PyProof.Rows (sortedS risingS)
open PyProof.Rows (lexLt itemOrd listOrd lex_total lex_irrefl lex_trans lex_negTrans tupItems)

/-! ### the order of texts, ints, tuples of them -/
abbrev SK : Type := List (Int ⊕ List Nat)
def keyI : D → Int ⊕ List Nat
  | .int i => .inl i
  | .str x => .inr x.cps.toList
  | _ => .inl 0
def keyT : D → SK
  | .tup ds => ds.map keyI
  | d => [keyI d]
def ltK (a b : D) : Bool := lexLt itemOrd (keyT a) (keyT b)
def leK (a b : D) : Bool := !ltK b a
def sortD (ds : List D) : List D := ds.mergeSort leK
theorem leK_trans (a b c : D) (h1 : leK a b = true) (h2 : leK b c = true) : leK a c = true := by
  unfold leK ltK at *
  simp only [Bool.not_eq_true'] at *
  cases h : lexLt itemOrd (keyT c) (keyT a) with
  | false => rfl
  | true =>
    rcases lex_negTrans (O := itemOrd) (keyT c) (keyT b) (keyT a) h with z | z
    · rw [h2] at z; cases z
    · rw [h1] at z; cases z
theorem leK_total (a b : D) : (leK a b || leK b a) = true := by
  unfold leK ltK
  cases h : lexLt itemOrd (keyT b) (keyT a) with
  | false => rfl
  | true =>
    cases h2 : lexLt itemOrd (keyT a) (keyT b) with
    | false => rfl
    | true =>
      have z := lex_trans (O := itemOrd) _ _ _ h h2
      rw [lex_irrefl] at z
      cases z
theorem sortD_perm (ds : List D) : (sortD ds).Perm ds := List.mergeSort_perm ds leK
theorem sortD_sorted (ds : List D) : (sortD ds).Pairwise (fun a b => leK a b = true) := List.pairwise_mergeSort leK_trans leK_total ds
theorem perm_uniq {α : Type} {le : α → α → Prop} : ∀ {es fs : List α}, es.Perm fs → es.Pairwise le → fs.Pairwise le → (∀ a ∈ es, ∀ b ∈ es, le a b → le b a → a = b) → es = fs
  | [], fs, h, _, _, _ => (List.Perm.eq_nil h.symm).symm
  | x :: l, [], h, _, _, _ => absurd h.length_eq (by simp)
  | x :: l, y :: m, h, h1, h2, an => by
    have e : x = y := by
      by_cases e : x = y
      · exact e
      · have hx : x ∈ m := by
          rcases List.mem_cons.mp (h.mem_iff.mp (List.mem_cons_self (a := x) (l := l))) with z | z
          · exact absurd z e
          · exact z
        have hy : y ∈ l := by
          rcases List.mem_cons.mp (h.mem_iff.mpr (List.mem_cons_self (a := y) (l := m))) with z | z
          · exact absurd z.symm e
          · exact z
        exact an x (by simp) y (by simp [hy]) ((List.pairwise_cons.mp h1).1 y hy) ((List.pairwise_cons.mp h2).1 x hx)
    subst e
    rw [perm_uniq h.cons_inv (List.pairwise_cons.mp h1).2 (List.pairwise_cons.mp h2).2 fun a ha b hb => an a (List.mem_cons_of_mem _ ha) b (List.mem_cons_of_mem _ hb)]
/-! ### what is sorted -/
def isStrD : D → Bool
  | .str _ => true
  | _ => false
def strOfD : D → Str
  | .str x => x
  | _ => Str.empty
/-- items as the shape says: a text where it is true, an int where it is not -/
def itemsB (sh : Nat → Bool) : Nat → List D → Bool
  | _, [] => true
  | i, .int _ :: r => !sh i && itemsB sh (i + 1) r
  | i, .str _ :: r => sh i && itemsB sh (i + 1) r
  | _, _ :: _ => false
def tupB (sh : Nat → Bool) : D → Bool
  | .tup (d :: ds) => itemsB sh 0 (d :: ds)
  | _ => false
/-- the shape of the first -/
def shapeD : List D → Nat → Bool
  | .tup ds :: _, i => (match ds[i]? with
    | some (.str _) => true
    | _ => false)
  | _, _ => false
def sortB (ds : List D) : Bool := (ds.all isStrD && decide (ds.length < 64)) || (ds.all (tupB (shapeD ds)) && decide (ds.length ≤ sizeLine))
def srtL (ds : List D) : EF Vl := if sortB ds = true then ret (.frs (.lst (sortD ds))) else stuck
def hSorted : D → EF Vl
  | .lst ds => srtL ds
  | .scr ds => srtL ds
  | _ => stuck
theorem itemsB_inj {sh : Nat → Bool} : ∀ {i : Nat} {as bs : List D}, itemsB sh i as = true → itemsB sh i bs = true → as.map keyI = bs.map keyI → as = bs
  | _, [], [], _, _, _ => rfl
  | _, [], b :: bs, _, _, h => by cases h
  | _, a :: as, [], _, _, h => by cases h
  | i, a :: as, b :: bs, h1, h2, h => by
    rw [List.map_cons, List.map_cons] at h
    obtain ⟨e1, e2⟩ := List.cons.inj h
    have r : itemsB sh (i + 1) as = true ∧ itemsB sh (i + 1) bs = true ∧ a = b := by
      cases a with
      | int x =>
        cases b with
        | int y =>
          refine ⟨and_r h1, and_r h2, ?_⟩
          cases (Sum.inl.inj (show (Sum.inl x : Int ⊕ List Nat) = .inl y from e1))
          rfl
        | str y => cases (show (Sum.inl x : Int ⊕ List Nat) = .inr _ from e1)
        | _ => cases h2
      | str x =>
        cases b with
        | str y =>
          refine ⟨and_r h1, and_r h2, ?_⟩
          have z : x.cps.toList = y.cps.toList := Sum.inr.inj (show (Sum.inr x.cps.toList : Int ⊕ List Nat) = .inr y.cps.toList from e1)
          obtain ⟨⟨l⟩⟩ := x
          obtain ⟨⟨l2⟩⟩ := y
          cases (show l = l2 from z)
          rfl
        | int y => cases (show (Sum.inr _ : Int ⊕ List Nat) = .inl y from e1)
        | _ => cases h2
      | _ => cases h1
    rw [r.2.2, itemsB_inj r.1 r.2.1 e2]
theorem keyT_inj {ds : List D} (h : sortB ds = true) {a b : D} (ha : a ∈ ds) (hb : b ∈ ds) (e : keyT a = keyT b) : a = b := by
  unfold sortB at h
  rw [Bool.or_eq_true, Bool.and_eq_true, Bool.and_eq_true, List.all_eq_true, List.all_eq_true] at h
  rcases h with ⟨h, _⟩ | ⟨h, _⟩
  · have h1 := h a ha
    have h2 := h b hb
    cases a with
    | str x =>
      cases b with
      | str y =>
        have z : x.cps.toList = y.cps.toList := Sum.inr.inj (List.cons.inj (show [(Sum.inr x.cps.toList : Int ⊕ List Nat)] = [.inr y.cps.toList] from e)).1
        obtain ⟨⟨l⟩⟩ := x
        obtain ⟨⟨l2⟩⟩ := y
        cases (show l = l2 from z)
        rfl
      | _ => cases h2
    | _ => cases h1
  · have h1 := h a ha
    have h2 := h b hb
    cases a with
    | tup as =>
      cases b with
      | tup bs =>
        cases as with
        | nil => cases h1
        | cons a as =>
          cases bs with
          | nil => cases h2
          | cons b bs => rw [itemsB_inj (sh := shapeD ds) (i := 0) h1 h2 e]
      | _ => cases h2
    | _ => cases h1
theorem sort_uniq {ds es : List D} (h : sortB ds = true) (p : es.Perm ds) (s : es.Pairwise fun a b => leK a b = true) : es = sortD ds := by
  refine perm_uniq (p.trans (sortD_perm ds).symm) s (sortD_sorted ds) fun a ha b hb h1 h2 => keyT_inj h (p.mem_iff.mp ha) (p.mem_iff.mp hb) ?_
  unfold leK ltK at h1 h2
  simp only [Bool.not_eq_true'] at h1 h2
  exact lex_total _ _ h2 h1
end DL
set_option maxRecDepth 100000
set_option maxHeartbeats 2000000
/-! sorted, the rule. -/
namespace DL
open PySem PySem.Spec L2 NdefX
open PyProof.Rows (sortedS risingS TupOf TupsOf KK SortedToK arrOf pairsOf pairsOf_toList mem_zip_self sortedAll_at sortedAll_old lexLt itemOrd listOrd lex_total lex_irrefl lex_trans lex_negTrans tupItems tupKey)
open PyProof.Rows.G (tupKeyC tupKindC isTupObj)
def itemsV (sh : Nat → Bool) : Nat → List V → Option SK
  | _, [] => some []
  | i, .int n :: r => if sh i = true then none else (itemsV sh (i + 1) r).map (Sum.inl n :: ·)
  | i, .str x :: r => if sh i = true then (itemsV sh (i + 1) r).map (Sum.inr x.cps.toList :: ·) else none
  | _, _ :: _ => none
theorem itemsV_val {sh : Nat → Bool} : ∀ {i : Nat} {ys : List V} {us : List Value} {l : SK}, Vals ys us → itemsV sh i ys = some l → tupItems sh i us = some l
  | _, [], [], l, .nil, h => h
  | i, y :: ys, u :: us, l, .cons r t, h => by
    cases y with
    | int n =>
      obtain ⟨tk, rfl⟩ := r
      replace h : (if sh i = true then none else (itemsV sh (i + 1) ys).map (Sum.inl n :: ·)) = some l := h
      show (if sh i = true then none else (tupItems sh (i + 1) us).map (Sum.inl n :: ·)) = some l
      split at h
      · cases h
      · rename_i hs
        rw [if_neg hs]
        obtain ⟨l', e, rfl⟩ := Option.map_eq_some_iff.mp h
        rw [itemsV_val t e]
        rfl
    | str x =>
      obtain ⟨tk, rfl⟩ := r
      replace h : (if sh i = true then (itemsV sh (i + 1) ys).map (Sum.inr x.cps.toList :: ·) else none) = some l := h
      show (if sh i = true then (tupItems sh (i + 1) us).map (Sum.inr x.cps.toList :: ·) else none) = some l
      split at h
      · rename_i hs
        rw [if_pos hs]
        obtain ⟨l', e, rfl⟩ := Option.map_eq_some_iff.mp h
        rw [itemsV_val t e]
        rfl
      · cases h
    | _ => cases h
/-- x's items, in K's way, make the key l -/
def KeyV (K : PySem.W.Frag) (H : Hp) (sh : Nat → Bool) (x : V) (l : SK) : Prop := ∃ t y ys, x = V.ref t ∧ SqT K H t (y :: ys) ∧ itemsV sh 0 (y :: ys) = some l
def rSortTD (K : PySem.W.Frag) : List V → Hp → VK → Prop := fun vs H Q => ∃ (a : Addr) (xs : List V) (sh : Nat → Bool), vs = [V.ref a] ∧ SqL K H a xs ∧ (∀ x ∈ xs, ∃ l, KeyV K H sh x l) ∧
  ∀ zs p, zs.Perm xs → zs.Pairwise (fun u v => ∀ l l', KeyV K H sh u l → KeyV K H sh v l' → lexLt itemOrd l' l = false) → H p = none → Q (.ref p) (upd H p (.lst zs))
def rSortD (K : PySem.W.Frag) : List V → Hp → VK → Prop := fun vs H Q => rSortedS K vs H Q ∨ rSortTD K vs H Q
section
variable {X : Cx}
theorem tupsOf_all {h : Heap} {sh : Nat → Bool} : ∀ {vs : List Value}, (∀ v ∈ vs, ∃ f, TupOf h sh v f) → ∃ fs, TupsOf h sh vs fs
  | [], _ => ⟨[], .nil⟩
  | v :: vs, H => by
    obtain ⟨f, hf⟩ := H v (by simp)
    obtain ⟨fs, hfs⟩ := tupsOf_all fun u hu => H u (List.mem_cons_of_mem _ hu)
    exact ⟨f :: fs, .cons hf hfs⟩
theorem call_sortTD : CallR X (.builtin "sorted") (rSortTD X.K) := by
  intro pins s σ H vs us Q I r h
  obtain ⟨a, xs, sh, rfl, hs, hx0, q0⟩ := h
  obtain ⟨key, hx⟩ : ∃ key : V → SK, ∀ x ∈ xs, KeyV X.K H sh x (key x) := by
    classical
    exact ⟨fun x => if h : x ∈ xs then Classical.choose (hx0 x h) else [], fun x h => by
      show KeyV X.K H sh x (if h : x ∈ xs then Classical.choose (hx0 x h) else [])
      rw [dif_pos h]
      exact Classical.choose_spec (hx0 x h)⟩
  have q : ∀ zs p, zs.Perm xs → zs.Pairwise (fun u v => lexLt itemOrd (key v) (key u) = false) → H p = none → Q (.ref p) (upd H p (.lst zs)) := fun zs p hp hw hn => by
    have ku : ∀ {x : V} {l : SK}, x ∈ xs → KeyV X.K H sh x l → l = key x := fun {x l} hm ⟨t, y, ys, e, h1, h2⟩ => by
      obtain ⟨t', y', ys', e', h1', h2'⟩ := hx x hm
      rw [e] at e'
      cases e'
      rw [I.tuple_inj h1 h1', h2'] at h2
      exact (Option.some.inj h2).symm
    refine q0 zs p hp (List.Pairwise.imp_of_mem ?_ hw) hn
    intro u v hu hv h l l' h1 h2
    rw [ku (hp.mem_iff.mp hu) h1, ku (hp.mem_iff.mp hv) h2]
    exact h
  obtain ⟨its, rv, hl, hz⟩ := I.list hs
  rw [Vals.ref1 r]
  obtain ⟨e1, e2⟩ := bkV_refs rv fun x m => by
    obtain ⟨t, _, _, e, _⟩ := hx x m
    exact ⟨t, e⟩
  have hz2 : its.length ≤ sizeLine := by rw [← rv.length]; exact hz
  have each : ∀ v ∈ its, (∃ f, TupOf s.heap sh v f) ∧ tupKeyC s.heap sh v = some (key (bkV v)) := fun v hv => by
    obtain ⟨t, rfl⟩ := e2 v hv
    have hm : V.ref t ∈ xs := by rw [e1]; exact List.mem_map.mpr ⟨_, hv, rfl⟩
    obtain ⟨t', y, ys, e, ht, hk⟩ := hx _ hm
    cases e
    obtain ⟨its2, rv2, p2, _⟩ := I.tuple ht
    have hit := itemsV_val rv2 hk
    obtain ⟨o, ho, hc, n, hd⟩ := p2
    refine ⟨?_, ?_⟩
    · cases rv2 with
      | @cons _ u _ us2 r1 rt =>
        refine ⟨u, t, o, _, n, rfl, ho, hc, hd, by simp, fun hf => ?_, fun hf => ?_⟩
        · cases y with
          | int i => obtain ⟨tk, rfl⟩ := r1; exact ⟨i, tk, rfl⟩
          | str x =>
            replace hk : (if sh 0 = true then (itemsV sh 1 ys).map (Sum.inr x.cps.toList :: ·) else none) = some (key (V.ref t)) := hk
            rw [hf] at hk
            cases hk
          | _ => cases hk
        · cases y with
          | str x => obtain ⟨tk, rfl⟩ := r1; exact ⟨x, tk, rfl⟩
          | int i =>
            replace hk : (if sh 0 = true then none else (itemsV sh 1 ys).map (Sum.inl i :: ·)) = some (key (V.ref t)) := hk
            rw [hf] at hk
            cases hk
          | _ => cases hk
    · have hc' : isTupObj s.heap (.ref t) = true := by simp [isTupObj, ho, hc]
      simp only [tupKeyC, hc', if_true, tupKey, ho, hd]
      exact hit
  obtain ⟨fs, ht⟩ := tupsOf_all fun v hv => (each v hv).1
  refine PyProof.Rows.G.sorted_tups hl.isList ht (fun v hv => ⟨_, (each v hv).2⟩) hz2 fun st' hp hso _ => ?_
  obtain ⟨ep, he'⟩ := sortedAll_at s.heap its ((arrOf st').map (·.2))
  have hpl : (arrOf st').toList.Perm (its.zip its) := by
    have z := Array.perm_iff_toList_perm.mp hp
    rw [pairsOf_toList] at z
    exact z
  have hmem : ∀ p ∈ (arrOf st').toList, p.1 = p.2 ∧ p.1 ∈ its := fun p hp => mem_zip_self (hpl.mem_iff.mp hp)
  have eo : ((arrOf st').map (·.2)).toList = (arrOf st').toList.map (·.2) := by simp
  have hout : ((arrOf st').toList.map (·.2)).Perm its := by
    have z := hpl.map (·.2)
    have e : (its.zip its).map (·.2) = its := by
      rw [List.map_snd_zip]
      exact Nat.le_refl _
    rw [e] at z
    exact z
  have h3 : ∀ u ∈ (arrOf st').toList.map (·.2), ∃ a, u = Value.ref a := fun u hu => e2 u (hout.mem_iff.mp hu)
  have hpx : (((arrOf st').toList.map (·.2)).map bkV).Perm xs := by
    rw [e1]
    exact hout.map bkV
  have hlen : (((arrOf st').toList.map (·.2)).map bkV).length ≤ sizeLine := by
    rw [hpx.length_eq, rv.length]
    exact hz2
  have hsz : (arrOf st').size = (pairsOf its).size := hp.size_eq
  refine ⟨.ref _, upd H (s.heap.objs.size + 1) (.lst (((arrOf st').toList.map (·.2)).map bkV)), I.laid (t' := s.toks) (fun _ _ => sortedAll_old) (Nat.le_succ _) ⟨hlen, _, ep, bkV_vals h3, by rw [← eo, Array.toArray_toList]; exact he'⟩, rfl, q _ _ hpx ?_ (I.hok.fresh (Nat.le_succ _))⟩
  rw [List.map_map, List.pairwise_map, List.pairwise_iff_getElem]
  intro i j hi hj hij
  have hi' : i < (arrOf st').size := by simpa using hi
  have hj' : j < (arrOf st').size := by simpa using hj
  have z := hso i j (Nat.le_of_lt hij) (by rw [← hsz]; exact hj')
  have kk : ∀ k (hk : k < (arrOf st').size), KK (tupKindC s.heap sh) (arrOf st') k = key (bkV (arrOf st')[k].2) := fun k hk => by
    have m := hmem (arrOf st')[k] (by simp)
    unfold KK
    rw [Array.getElem?_eq_getElem hk]
    show ((tupKeyC s.heap sh (arrOf st')[k].1).getD []) = _
    rw [(each _ m.2).2, m.1]
    rfl
  rw [kk i hi', kk j hj'] at z
  exact z
theorem call_sortD : CallR X (.builtin "sorted") (rSortD X.K) := CallR.or cr_sortedS call_sortTD
end
end DL
set_option maxRecDepth 100000
set_option maxHeartbeats 2000000
/-! sorted, told of data. -/
namespace DL
open PySem PySem.Spec L2 NdefX
open PyProof.Rows (sortedS risingS lexLt itemOrd strKind)
section
variable {S : Sta} {W : WX} {X : Cx} {H0 : Hp} {mm : List Addr}
/-- the key of a value that reads as d, its items in K's way -/
theorem items_rel {sh : Nat → Bool} : ∀ {i : Nat} {ds : List D} {vs : List V}, itemsB sh i ds = true → Dps S H0 mm vs ds → itemsV sh i vs = some (ds.map keyI)
  | _, [], _, _, h => by cases (show _ = [] from h); rfl
  | i, d :: ds, _, hb, h => by
    obtain ⟨v, r, rfl, q, t⟩ := h
    cases d with
    | int n =>
      obtain rfl : v = .int n := q
      have z : (!sh i) = true := and_l hb
      have hs : ¬ sh i = true := by cases h : sh i <;> simp_all
      show (if sh i = true then none else (itemsV sh (i + 1) r).map (Sum.inl n :: ·)) = _
      rw [if_neg hs, items_rel (and_r hb) t]
      rfl
    | str x =>
      obtain rfl : v = .str x := q
      have hs : sh i = true := and_l hb
      show (if sh i = true then (itemsV sh (i + 1) r).map (Sum.inr x.cps.toList :: ·) else none) = _
      rw [if_pos hs, items_rel (and_r hb) t]
      rfl
    | _ => cases hb
/-- a row of values and its data, rearranged together -/
theorem perm_dps : ∀ {vs ws : List V} {ds : List D}, ws.Perm vs → Dps S H0 mm vs ds → ∃ es, es.Perm ds ∧ Dps S H0 mm ws es := by
  intro vs ws ds h
  induction h generalizing ds with
  | nil => exact fun h => ⟨ds, .refl _, h⟩
  | cons x p ih =>
    intro h
    cases ds with
    | nil => cases (show _ :: _ = [] from h)
    | cons d ds =>
      obtain ⟨v, r, e, q, t⟩ := h
      cases e
      obtain ⟨es, p2, h2⟩ := ih t
      exact ⟨d :: es, p2.cons d, _, _, rfl, q, h2⟩
  | swap x y l =>
    intro h
    cases ds with
    | nil => cases (show _ :: _ = [] from h)
    | cons d ds =>
      obtain ⟨v, r, e, q, t⟩ := h
      cases e
      cases ds with
      | nil => cases (show _ :: _ = [] from t)
      | cons d2 ds =>
        obtain ⟨v2, r2, e, q2, t2⟩ := t
        cases e
        exact ⟨d2 :: d :: ds, .swap _ _ _, _, _, rfl, q2, _, _, rfl, q, t2⟩
  | trans p1 p2 ih1 ih2 =>
    intro h
    obtain ⟨es, q1, h1⟩ := ih2 h
    obtain ⟨fs, q2, h2⟩ := ih1 h1
    exact ⟨fs, q2.trans q1, h2⟩
theorem ltCps_blt (a b : List Nat) : itemOrd.blt (.inr a) (.inr b) = ltCps a b := by
  show decide (a < b) = ltCps a b
  rw [PyProof.Rows.ltCps_eq]
theorem lex_one (a b : List Nat) : lexLt itemOrd [.inr a] [.inr b] = ltCps a b := by
  rw [← ltCps_blt]
  cases h : itemOrd.blt (.inr a) (.inr b) with
  | true => exact PyProof.Rows.lex_true.mpr (.inl h)
  | false =>
    refine PyProof.Rows.lex_false.mpr ⟨h, .inr rfl⟩
theorem rising_pair : ∀ {xs : List Str} {p : Str}, risingS p xs = true → (p :: xs).Pairwise fun a b => ltCps b.cps.toList a.cps.toList = false
  | [], p, _ => List.pairwise_singleton _ _
  | x :: xs, p, h => by
    have h : (!ltCps x.cps.toList p.cps.toList && risingS x xs) = true := h
    have h1 := and_l h
    have h2 := rising_pair (and_r h)
    refine List.pairwise_cons.mpr ⟨fun y hy => ?_, h2⟩
    have e1 : ltCps x.cps.toList p.cps.toList = false := by cases z : ltCps x.cps.toList p.cps.toList <;> simp_all
    rcases List.mem_cons.mp hy with z | z
    · rw [z]; exact e1
    · have e2 := (List.pairwise_cons.mp h2).1 y z
      rw [← lex_one] at e1 e2 ⊢
      cases q : lexLt itemOrd [.inr y.cps.toList] [.inr p.cps.toList] with
      | false => rfl
      | true =>
        rcases PyProof.Rows.lex_negTrans (O := itemOrd) _ [.inr x.cps.toList] _ q with w | w
        · rw [e2] at w; cases w
        · rw [e1] at w; cases w
theorem sorted_pair : ∀ {xs : List Str}, sortedS xs = true → xs.Pairwise fun a b => ltCps b.cps.toList a.cps.toList = false
  | [], _ => .nil
  | x :: xs, h => rising_pair h
theorem k_sorted (hK : X.K = S.K) : K1 S W (fun x H Q => rSortD X.K [x] H Q) hSorted := fun x dx H0 H mm μ σ ρ Q ok rx en => by
  rw [hK]
  have go : ∀ {a : Addr} {vs : List V} {ds : List D}, x = .ref a → SqL S.K H a vs → Dps S H0 mm vs ds → Fin S W H0 H mm σ ρ Q (srtL ds ρ μ) → rSortD S.K [x] H Q := fun {a vs ds} ex hq dv en => by
    subst ex
    unfold srtL at en
    by_cases hb : sortB ds = true
    · rw [if_pos hb] at en
      have hb0 := hb
      unfold sortB at hb
      rw [Bool.or_eq_true, Bool.and_eq_true, Bool.and_eq_true, List.all_eq_true, List.all_eq_true, decide_eq_true_eq, decide_eq_true_eq] at hb
      rcases hb with ⟨h1, h2⟩ | ⟨h1, h2⟩
      · have e : vs = (ds.map strOfD).map V.str ∧ ds = (ds.map strOfD).map D.str := by
          clear hb0 h2 en hq
          induction ds generalizing vs with
          | nil => cases (show vs = [] from dv); exact ⟨rfl, rfl⟩
          | cons d ds ih =>
            obtain ⟨v, r, rfl, q, t⟩ := dv
            have hd := h1 d (by simp)
            cases d with
            | str z =>
              obtain rfl : v = .str z := q
              obtain ⟨e1, e2⟩ := ih t fun y hy => h1 y (List.mem_cons_of_mem _ hy)
              refine ⟨?_, ?_⟩
              · rw [List.map_cons, List.map_cons, ← e1]; rfl
              · rw [List.map_cons, List.map_cons, ← e2]; rfl
            | _ => cases hd
        refine .inl ⟨a, ds.map strOfD, rfl, by rw [← e.1]; exact hq, by rw [List.length_map]; exact h2, fun ys p hp hs hn => ?_⟩
        have eu : ys.map D.str = sortD ds := by
          refine sort_uniq hb0 (by
            have z := hp.map D.str
            rw [← e.2] at z
            exact z) ?_
          rw [List.pairwise_map]
          refine (sorted_pair hs).imp fun {a b} h => ?_
          show (!lexLt itemOrd [.inr b.cps.toList] [.inr a.cps.toList]) = true
          rw [lex_one, h]
          rfl
        exact fin_lst ok en (by rw [← eu]; exact strs_dps ys) hn
      · have hk : ∀ {v : V} {d : D}, d ∈ ds → Dp S H0 mm v d → KeyV S.K H (shapeD ds) v (keyT d) := fun {v d} hd q => by
          have hd := h1 d hd
          cases d with
          | tup as =>
            cases as with
            | nil => cases hd
            | cons a as =>
              obtain ⟨t, ys, rfl, q1, q2⟩ := q
              have hi := items_rel (sh := shapeD ds) (i := 0) hd q2
              obtain ⟨y, r, rfl, _, _⟩ := q2
              exact ⟨t, y, r, rfl, sqT_sub ok.g.sub q1, hi⟩
          | _ => cases hd
        have mem : ∀ {vs : List V} {ds' : List D} {v : V}, Dps S H0 mm vs ds' → v ∈ vs → ∃ d ∈ ds', Dp S H0 mm v d := by
          intro vs ds' v h hv
          obtain ⟨i, hi⟩ := List.mem_iff_getElem?.mp hv
          have hl := (List.getElem?_eq_some_iff.mp hi).1
          rw [h.length] at hl
          obtain ⟨w, w1, w2⟩ := h.get (List.getElem?_eq_getElem hl)
          rw [hi] at w1
          cases w1
          exact ⟨_, List.getElem_mem hl, w2⟩
        refine .inr ⟨a, vs, shapeD ds, rfl, hq, fun v hv => ?_, fun zs p hp hw hn => ?_⟩
        · obtain ⟨d, hd, q⟩ := mem dv hv
          exact ⟨_, hk hd q⟩
        · obtain ⟨es, p1, p2⟩ := perm_dps hp dv
          have eu : es = sortD ds := by
            refine sort_uniq hb0 p1 ?_
            rw [List.pairwise_iff_getElem] at hw ⊢
            intro i j hi hj hij
            obtain ⟨u, u1, u2⟩ := p2.get (List.getElem?_eq_getElem hi)
            obtain ⟨w, w1, w2⟩ := p2.get (List.getElem?_eq_getElem hj)
            have li : i < zs.length := by rw [p2.length]; exact hi
            have lj : j < zs.length := by rw [p2.length]; exact hj
            rw [List.getElem?_eq_getElem li] at u1
            rw [List.getElem?_eq_getElem lj] at w1
            cases u1
            cases w1
            have z := hw i j li lj hij _ _ (hk (p1.mem_iff.mp (List.getElem_mem hi)) u2) (hk (p1.mem_iff.mp (List.getElem_mem hj)) w2)
            show (!lexLt itemOrd (keyT es[j]) (keyT es[i])) = true
            rw [z]
            rfl
          exact fin_lst ok en (by rw [← eu]; exact p2) hn
    · rw [if_neg hb] at en; exact en.no.elim
  cases dx with
  | lst ds =>
    obtain ⟨a, vs, ex, q, r⟩ := rx
    exact go ex (SqL.of q) r en
  | scr ds =>
    obtain ⟨a, vs, ex, q, r⟩ := rx
    exact go ex (sqL_sub ok.g.sub q) r en
  | _ => exact en.no.elim
end
end DL
set_option maxRecDepth 100000
set_option maxHeartbeats 2000000
/-! Dicts: items; dicts and tuples of the text. -/
namespace DL
open PySem PySem.Spec L2 NdefX
open PyProof.Rows (envOfC)
/-! ### items of dicts too -/
def rIxK : R2 := fun x y H Q => ∃ a v, x = .ref a ∧ DGet H a y (some v) ∧ Q v H
def ixA : D → D → Option D
  | .dic ks vs, d => (keyD d).bind (dicAt ks vs)
  | a, b => ixD a b
def hIxA (a b : D) : EF Vl := okD (ixA a b)
section
variable {S : Sta} {W : WX} {X : Cx}
theorem ix_dic (hu : X.A.units + 1 < cLine) : IxR X rIxK := by
  intro value slice pins s σ H x y v u Q I rx ry h hs
  obtain ⟨p, r, rfl, g, q⟩ := h
  obtain rfl : v = Value.ref p := rx
  exact PyProof.Rows.tail_any (dict_typeIs I g) PySem.F.slot_dict_getitem.lookup (d_getItem hu I g ry fun w' s3 I3 rw' => ⟨r, H, I3, rw', q⟩) hs
theorem k_ixA (hK : X.K = S.K) : K2 S W (fun x y H Q => rIx X.K x y H Q ∨ rIxK x y H Q) hIxA := fun x y dx dy H0 H mm μ σ ρ Q ok rx ry en => by
  cases dx with
  | dic ks vs =>
    obtain ⟨d, e, en⟩ := okD_some en
    obtain ⟨k, e1, e2⟩ := Option.bind_eq_some_iff.mp (show (keyD dy).bind (dicAt ks vs) = some d from e)
    obtain ⟨a, kvs, rfl, q, r1, r2⟩ := rx
    obtain ⟨v, ev, dv⟩ := (dic_get (k := k) r1 r2).2 d e2
    exact .inr ⟨a, v, rfl, by rw [keyD_V e1 ry, ← ev]; exact DGet.k q, fin_val ok en dv⟩
  | _ => exact .inl (k_ix hK x y _ dy H0 H mm μ σ ρ Q ok rx ry en)
theorem e_ixA {a b : Expr} {ga gb : EF Vl} {pos : Pos} (hu : X.A.units + 65 < cLine) (hK : X.K = S.K) (ha : PE X a (rd S W ga)) (hb : PE X b (rd S W gb)) (hs : PlainIx b) : PE X (.Subscript a b pos) (rd S W (g2 hIxA ga gb)) :=
  PE.weak (pe_ix (IxR.or ix_seq (ix_dic (by omega))) ha hb hs) fun σ H Q h => t_two (k_ixA hK) h
end
/-! ### a dict of the text -/
/-- the name x stands for a dict of the text with these keys and values -/
structure KDc (S : Sta) (w : World) (mg : Str → Option Value) (x : Str) (ks : List (Str × D)) : Prop where
  ex : ∃ d es n, mg x = some (.ref d) ∧ KDict S.K w d es n ∧ ∀ z dd, ks.lookup z = some dd → ∃ u v, PySem.W.nsIn S.K d z = some (some u) ∧ RelV v u ∧ ∀ H0 mm, Dp S H0 mm v dd
def kdIn (ks : List (Str × D)) : D → Option D
  | .str z => (ks.lookup z).map fun _ => .bl true
  | _ => none
def kdNin (ks : List (Str × D)) : D → Option D
  | .str z => (ks.lookup z).map fun _ => .bl false
  | _ => none
def kdGet (ks : List (Str × D)) : D → Option D
  | .str z => ks.lookup z
  | _ => none
section
variable {S : Sta} {W : WX} {X : Cx} {x : Str} {ks : List (Str × D)} {e : Expr} {g : EF Vl} {p pos : Pos}
theorem e_kdnin (c : KDc S X.w X.mg x ks) (hK : X.K = S.K) (hg : Gl X x) (he : PE X e (rd S W g)) (hm : behindInMarks .NotIn (.Name x p) = false) (hd : (x == ("__debug__" : Str)) = false := by decide) : PE X (.Compare e [.NotIn] [.Name x p] pos) (rd S W (g1 (h1 (kdNin ks)) g)) := by
  obtain ⟨d, es, n, hmg, KD, hv⟩ := c
  rw [← hK] at KD hv
  refine PE.weak (pe_cmpR (op_notIn_kd KD) he (pe_glob (v := .ref d) hg hmg rfl hd) hm) fun σ H Q h => ?_
  refine rd_mono (t_one (r1 := fun x1 H1 Q => ∃ z, x1 = V.str z ∧ ∃ r, PySem.W.nsIn X.K d z = some r ∧ Q (.bl (!r.isSome)) H1) (fun x1 dx H0 H mm μ σ ρ Q ok rx en => ?_) h) fun v H1 h1 => ?_
  · obtain ⟨dd, ed, en⟩ := okD_some en
    cases dx with
    | str z =>
      obtain ⟨d2, e1, rfl⟩ := Option.map_eq_some_iff.mp (show (ks.lookup z).map (fun _ => D.bl false) = some dd from ed)
      obtain ⟨u, v, e2, _, _⟩ := hv z d2 e1
      exact ⟨z, rx, _, e2, fin_val ok en rfl⟩
    | _ => cases ed
  · obtain ⟨z, rfl, r, e2, q⟩ := h1
    exact ⟨z, r, rfl, rfl, e2, q⟩
theorem e_kdin (c : KDc S X.w X.mg x ks) (hK : X.K = S.K) (hg : Gl X x) (he : PE X e (rd S W g)) (hm : behindInMarks .In (.Name x p) = false) (hd : (x == ("__debug__" : Str)) = false := by decide) : PE X (.Compare e [.In] [.Name x p] pos) (rd S W (g1 (h1 (kdIn ks)) g)) := by
  obtain ⟨d, es, n, hmg, KD, hv⟩ := c
  rw [← hK] at KD hv
  refine PE.weak (pe_cmpR (op_in_kd KD) he (pe_glob (v := .ref d) hg hmg rfl hd) hm) fun σ H Q h => ?_
  refine rd_mono (t_one (r1 := fun x1 H1 Q => ∃ z, x1 = V.str z ∧ ∃ r, PySem.W.nsIn X.K d z = some r ∧ Q (.bl r.isSome) H1) (fun x1 dx H0 H mm μ σ ρ Q ok rx en => ?_) h) fun v H1 h1 => ?_
  · obtain ⟨dd, ed, en⟩ := okD_some en
    cases dx with
    | str z =>
      obtain ⟨d2, e1, rfl⟩ := Option.map_eq_some_iff.mp (show (ks.lookup z).map (fun _ => D.bl true) = some dd from ed)
      obtain ⟨u, v, e2, _, _⟩ := hv z d2 e1
      exact ⟨z, rx, _, e2, fin_val ok en rfl⟩
    | _ => cases ed
  · obtain ⟨z, rfl, r, e2, q⟩ := h1
    exact ⟨z, r, rfl, rfl, e2, q⟩
theorem t_kdnin (c : KDc S X.w X.mg x ks) (hK : X.K = S.K) (hg : Gl X x) (he : PE X e (rd S W g)) (hm : behindInMarks .NotIn (.Name x p) = false) (hd : (x == ("__debug__" : Str)) = false := by decide) : PT X (.Compare e [.NotIn] [.Name x p] pos) (rt S W (gB (g1 (h1 (kdNin ks)) g))) := by
  obtain ⟨d, es, n, hmg, KD, hv⟩ := c
  rw [← hK] at KD hv
  refine PT.weak (pt_cmpR (op_notIn_kd KD) he (pe_glob (v := .ref d) hg hmg rfl hd) hm) fun σ H Q h => ?_
  refine rd_mono (t_one (r1 := fun x1 H1 Q => ∃ z, x1 = V.str z ∧ ∃ r, PySem.W.nsIn X.K d z = some r ∧ Q (.bl (!r.isSome)) H1) (fun x1 dx H0 H mm μ σ ρ Q ok rx en => ?_) (t_asB h)) fun v H1 h1 => ?_
  · obtain ⟨dd, ed, en⟩ := okD_some en
    cases dx with
    | str z =>
      obtain ⟨d2, e1, rfl⟩ := Option.map_eq_some_iff.mp (show (ks.lookup z).map (fun _ => D.bl false) = some dd from ed)
      obtain ⟨u, v, e2, _, _⟩ := hv z d2 e1
      exact ⟨z, rx, _, e2, fin_val ok en rfl⟩
    | _ => cases ed
  · obtain ⟨z, rfl, r, e2, q⟩ := h1
    exact ⟨z, r, rfl, rfl, e2, q⟩
theorem e_kdget {b : Expr} (c : KDc S X.w X.mg x ks) (hK : X.K = S.K) (hg : Gl X x) (he : PE X b (rd S W g)) (hs : PlainIx b) (hd : (x == ("__debug__" : Str)) = false := by decide) : PE X (.Subscript (.Name x p) b pos) (rd S W (g1 (h1 (kdGet ks)) g)) := by
  obtain ⟨d, es, n, hmg, KD, hv⟩ := c
  rw [← hK] at KD hv
  refine PE.weak (pe_ix ix_kdict (pe_glob (v := .ref d) hg hmg rfl hd) he hs) fun σ H Q h => ?_
  refine rd_mono (t_one (r1 := fun x1 H1 Q => ∃ z v, x1 = V.str z ∧ KDct X.K X.w d z v ∧ Q v H1) (fun x1 dx H0 H mm μ σ ρ Q ok rx en => ?_) h) fun v H1 h1 => ?_
  · obtain ⟨dd, ed, en2⟩ := okD_some en
    cases dx with
    | str z =>
      obtain ⟨u, v, e2, r, q⟩ := hv z dd ed
      exact ⟨z, v, rx, ⟨es, n, u, KD.at_, KD.lit, e2, r⟩, fin_val ok en2 (q H0 mm)⟩
    | _ => cases ed
  · obtain ⟨z, v, rfl, k, q⟩ := h1
    exact ⟨d, z, v, rfl, rfl, k, q⟩
end
/-! ### the place in a tuple of the text -/
structure CstT (S : Sta) (mg : Str → Option Value) (x : Str) (ts : List Str) : Prop where
  ex : ∃ p o, mg x = some (.ref p) ∧ S.K.lookup p = some o ∧ o.cls = .type "tuple" ∧ o.dict = none ∧ ∀ H, SqT S.K H p (ts.map V.str)
def tixD (ts : List Str) : List D → Option D
  | [.str z] => if z ∈ ts then some (.int (ts.idxOf z)) else none
  | _ => none
theorem tixD_some {ts : List Str} {ds : List D} {d : D} (h : tixD ts ds = some d) : ∃ z, ds = [.str z] ∧ z ∈ ts ∧ d = .int (ts.idxOf z) := by
  unfold tixD at h
  split at h
  · rename_i z
    split at h
    · rename_i hz
      cases h
      exact ⟨z, rfl, hz, rfl⟩
    · cases h
  · cases h
theorem idx_min {z : Str} : ∀ {ts : List Str} {m : Nat}, m < ts.idxOf z → ts[m]? ≠ some z
  | [], m, h, e => by simp at e
  | a :: ts, m, h, e => by
    rw [List.idxOf_cons] at h
    by_cases ha : (a == z) = true
    · rw [ha] at h
      exact absurd h (Nat.not_lt_zero m)
    · have ha : (a == z) = false := by simpa using ha
      rw [ha] at h
      cases m with
      | zero =>
        simp at e
        rw [e] at ha
        simp at ha
      | succ m => exact idx_min (ts := ts) (m := m) (by simpa using h) (by simpa using e)
def gTix (ts : List Str) (t : EF (List D)) : EF Vl := bnd t fun ds => okD (tixD ts ds)
section
variable {S : Sta} {W : WX} {X : Cx} {x : Str} {ts : List Str} {e : Expr} {es : List Expr} {t : EF (List D)} {p apos cpos : Pos}
theorem e_tix (c : CstT S X.mg x ts) (hK : X.K = S.K) (hg : Gl X x) (ha : PA X (e :: es) (ra S W t)) (hd : (x == ("__debug__" : Str)) = false := by decide)
    (hbase : attributeBase (.Name x p) "index" X.env (eval (.Name x p) X.env) = eval (.Name x p) X.env := by rfl)
    (hfew : ((backTo cpos (starEach (e :: es) X.env)).all (fun x => !x.1) && (backToKw cpos (keywordEach [] X.env)).all (fun x => x.1.isSome)
      && decide ((e :: es).length + ([] : List Keyword).length + (if ([] : List Keyword).isEmpty then 0 else 1) < 30)) = true := by rfl)
    (hline : (apos.endLine == cpos.line) = true := by rfl) (hs : starEach (e :: es) X.env = (false, eval e X.env) :: starEach es X.env := by rfl) (hplain : (backTo cpos (starEach es X.env)).any (·.1) = false := by rfl) :
    PE X (.Call (.Attribute (.Name x p) "index" apos) (e :: es) [] cpos) (rd S W (gTix ts t)) := by
  obtain ⟨q, o, hmg, hl, hc, hdn, hT⟩ := c
  rw [← hK] at hl hT
  refine PE.weak (pe_bm PySem.F.plainAttrs_tuple PySem.F.slot_tuple_index PySem.F.type_tuple_index mt_tup_index (pe_glob (v := .ref q) hg hmg rfl hd) ha hbase hfew hline hs hplain) fun σ H Q h => ?_
  refine ⟨.inr (.inl ⟨rfl, o, hl, hc, hdn⟩), ?_⟩
  refine rd_mono (rk_push (k := knA S) stay0 (rk_start h)) fun vs H1 h1 => ?_
  obtain ⟨H0p, Hp, mmp, ρp, H0, mm, ρ, μ, ⟨_, ds⟩, ok, nx, ow, ho, ⟨_, dv⟩, en⟩ := h1
  have dv : Dps S H0 mm vs ds := dv
  obtain ⟨d, ed, en⟩ := okD_some (show Fin S W H0 H1 mm σ ρ Q (okD (tixD ts ds) ρ μ) from ⟨H0p, Hp, mmp, ρp, nx, ow, ho, en⟩)
  obtain ⟨z, rfl, hz, rfl⟩ := tixD_some ed
  obtain ⟨v, r, rfl, hv, hr⟩ := dv
  cases (show r = [] from hr)
  have hlt := List.idxOf_lt_length_of_mem hz
  exact ⟨q, ts, z, ts.idxOf z, rfl, by rw [show v = .str z from hv], hT H1, by rw [List.getElem?_eq_getElem hlt, List.getElem_idxOf hlt], fun m hm => idx_min hm, fin_val ok en rfl⟩
end
end DL
set_option maxRecDepth 100000
set_option maxHeartbeats 2000000
/-! Several names at once, through a tuple. -/
namespace DL
open PySem PySem.Spec L2 NdefX
def gNs : List Nat → TGs
  | [] => L2.gNil
  | i :: is => L2.gCons (L2.gName i) (gNs is)
section
variable {S : Sta} {W : WX} {X : Cx} {e : Expr} {es : List Expr} {t : EF (List Vl)} {pos : Pos} {x : Str}
theorem ns_nil : PGs X [] (gNs []) := pgs_nil
theorem ns_cons {i : Nat} {is : List Nat} {px : Pos} (hN : X.N.Nodup) (hi : X.N[i]? = some x) (hx : Loc X.env.scope x) (hf : X.fn x = true ∨ X.env.scope.names.lookup x = some .local) (h2 : PGs X es (gNs is))
    (hs : (assignEach (.Name x px :: es) X.env).map (·.2) = assign (.Name x px) X.env :: (assignEach es X.env).map (·.2) := by rfl) : PGs X (.Name x px :: es) (gNs (i :: is)) := pgs_cons (pg_name hN hi hx hf) h2 hs
theorem gNs_run : ∀ {is : List Nat} {vs : List V} {σ : St} {H : Hp} {Q : St → Hp → Prop}, vs.length = is.length → Q (setAll σ is vs) H → gNs is vs σ H Q
  | [], [], _, _, _, _, q => ⟨rfl, q⟩
  | i :: is, v :: vs, σ, H, Q, hl, q => ⟨v, vs, rfl, gNs_run (by simpa using hl) q⟩
def sParT (is : List Nat) (t : EF (List Vl)) : SF := sBnd t fun xs => if xs.length ≤ sizeLine then putVs is xs else sNever
theorem s_parT {ts : List Expr} {is : List Nat} {k1 k2 : Nat} {p1 p2 : Pos} (hK : X.K = S.K) (hc : X.calm = true) (hg : PGs X ts (gNs is)) (ha : PA X es (rp S W t))
    (hn : (assignEach ts X.env).length = is.length := by rfl) (hst : (assignEach ts X.env).findIdx? (·.1) = none := by rfl) (hw : swappedStores [.Tuple ts k1 p1] (.Tuple es k2 p2) X.env = pure none := by rfl)
    (hs : swapsWithSole [.Tuple ts k1 p1] (.Tuple es k2 p2) pos.line X.env = pure false := by rfl) (h1 : (assignEach [.Tuple ts k1 p1] X.env).map (·.2) = [assign (.Tuple ts k1 p1) X.env] := by rfl) :
    PS X (.Assign [.Tuple ts k1 p1] (.Tuple es k2 p2) pos) (rs S W (sParT is t)) :=
  PS.weak (ps_asg (pe_tup ha) (pg_tup (n := is.length) hc hg hn hst) hs hw h1) fun D σ H h => by
    refine rd_mono (rs_bnd (k := knP S) h) fun vs H1 ⟨H0p, Hp, mmp, ρp, H0, mm, ρ, μ, xs, ok, nx, ow, ho, va, en⟩ => ?_
    obtain ⟨v1, ap⟩ := va
    by_cases hz : xs.length ≤ sizeLine
    · rw [if_pos hz] at en
      refine ⟨by rw [vls_len v1]; exact hz, fun p hp => ?_⟩
      have ok1 : Ok S H0 (upd H1 p (.tup vs)) mm μ σ ρ := ok.made hp
      have nx1 : Nx (Own σ ρ) H0 H1 mm H0 (upd H1 p (.tup vs)) mm := Nx.made hp
      have v2 := v1.nx nx1 .refl .refl
      rcases putVs_res (is := is) (xs := xs) (ρ := ρ) (μ := μ) with q | ⟨ρ', q, l⟩
      · rw [q] at en; exact en.elim
      · rw [q] at en
        obtain ⟨em, ok2, o2⟩ := puts_go (is := is) ok1 v2 ap q
        refine ⟨p, vs, rfl, SqT.of upd_same, by rw [vls_len v1, l], gNs_run (by rw [vls_len v1, l]) (en _ H0 _ mm ok2 (nx.trans ow nx1) fun b hb => ?_)⟩
        rcases o2 b hb with w | w
        · exact ow b w
        · exact .inr w
    · rw [if_neg hz] at en
      exact en.elim
end
end DL
set_option maxRecDepth 100000
set_option maxHeartbeats 2000000
/-! dict(zip(a, b)), a and b of any kind that is drawn. -/
namespace DL
open PySem PySem.Spec L2 NdefX
open PySem (IsZipHeld wpAny_tupleHeld_zip PairArg PairSrc PairAt)
section
variable {prog : Program} {w : World} {A : Around} {E : Value → Shared → Prop} {s : Shared} {z TI TO T i1 i2 : Addr} {fp1 fp2 : List Addr} {n1 n2 i : Nat} {P1 P2 : Nat → Value → Prop} {St1 St2 : Nat → Heap → Prop} {f : Bool} {oT : Obj}
/-- what of two walks stands apart -/
structure Zp (z TI i1 i2 : Addr) (fp1 fp2 : List Addr) : Prop where
  z1 : z ∉ fp1
  z2 : z ∉ fp2
  m1 : i1 ∈ fp1
  m2 : i2 ∈ fp2
  s12 : i1 ∉ fp2
  s21 : i2 ∉ fp1
theorem zp_item {Q : Value → Shared → Prop} (S : Zp z TI i1 i2 fp1 fp2) (D1 : Draws prog w A i1 fp1 n1 P1 St1) (D2 : Draws prog w A i2 fp2 n2 P2 St2)
    (hz : IsZipHeld s.heap z TI TO T f) (hT : s.heap.get? T = some oT) (hTI : IsPair s.heap TI (.ref i1) (.ref i2)) (st1 : St1 i s.heap) (st2 : St2 i s.heap) (l1 : i < n1) (l2 : i < n2)
    (hQ : ∀ x y h' tk, P1 i x → P2 i y → IsZipHeld h' z TI TO T true → St1 (i + 1) h' → St2 (i + 1) h' → IsPair h' s.heap.objs.size x y → h'.objs.size = s.heap.objs.size + 1 →
      (∀ c o, c ≠ z → c ≠ i1 → c ≠ i2 → s.heap.get? c = some o → h'.get? c = some o) → Q (.ref s.heap.objs.size) { s with heap := h', toks := tk }) :
    wpAny (model prog w) A (Builtin.«zip.__next__» ⟨[.ref z], []⟩) (fun fin s' => ∃ v, fin = .done (.ret v) ∧ Q v s') E s := by
  have z1 : z ≠ i1 := fun e => S.z1 (by rw [e]; exact S.m1)
  have z2 : z ≠ i2 := fun e => S.z2 (by rw [e]; exact S.m2)
  show wpAny _ _ (field (.ref z) 2 >>= _) _ _ _
  refine wpAny_bind (wpAny_field hz rfl (x := .bool false) rfl ?_)
  show wpAny _ _ (field (.ref z) 3 >>= _) _ _ _
  refine wpAny_bind (wpAny_field hz rfl (x := .ref TI) rfl ?_)
  refine wpAny_bind (wpAny_seqItems hTI rfl ?_)
  show wpAny _ _ (Builtin.SmallTypes.ownedTupleIsFree (.ref z) >>= _) _ _ _
  refine wpAny_bind (wpAny_tupleHeld_zip hz hT fun k1 e1 b1 => ?_)
  simp only [Bool.false_eq_true, if_false]
  refine wpAny_bind ?_
  rw [← Array.forIn_toList]
  simp only [List.forIn_cons, List.forIn_nil]
  refine wpAny_bind (wpAny_bind (wpAny_holding ?_))
  show wpAny _ _ (Builtin.SmallTypes.nextOf (.ref i1) >>= _) _ _ _
  have st1' : St1 i k1 := D1.frame i _ _ st1 fun b hb o e => b1.extBut b o (fun q => S.z1 (by rw [← q]; exact hb)) e
  have st2' : St2 i k1 := D2.frame i _ _ st2 fun b hb o e => b1.extBut b o (fun q => S.z2 (by rw [← q]; exact hb)) e
  refine wpAny_bind (D1.item i { s with heap := k1 } _ _ l1 st1' fun x k2 t2 px n1' b2 => wpAny_pure ?_)
  refine wpAny_pure ?_
  refine wpAny_bind (wpAny_bind (wpAny_holding ?_))
  show wpAny _ _ (Builtin.SmallTypes.nextOf (.ref i2) >>= _) _ _ _
  have st2'' : St2 i k2 := D2.frame i _ _ st2' fun b hb o e => b2.extBut b o (fun q => S.s12 (by rw [← q]; exact hb)) e
  refine wpAny_bind (D2.item i { s with heap := k2, toks := t2 } _ _ l2 st2'' fun y k3 t3 py n2' b3 => wpAny_pure ?_)
  refine wpAny_pure (wpAny_pure ?_)
  show wpAny _ _ (newTuple [x, y] >>= _) _ _ _
  refine wpAny_bind (wpAny_newTuple ?_)
  have b2 : Heap.SameBut i1 k1 k2 := b2
  have b3 : Heap.SameBut i2 k2 k3 := b3
  have hsz : k3.objs.size = s.heap.objs.size := by rw [b3.1, b2.1, b1.1]
  have hz3 : IsZipHeld k3 z TI TO T true := b3.extBut _ _ z2 (b2.extBut _ _ z1 e1)
  have hk : ∀ c o, c ≠ z → c ≠ i1 → c ≠ i2 → s.heap.get? c = some o → k3.get? c = some o := fun c o c1 c2 c3 e => b3.extBut _ _ c3 (b2.extBut _ _ c2 (b1.extBut _ _ c1 e))
  have st1k : St1 (i + 1) k3 := D1.frame _ _ _ n1' fun b hb o e => b3.extBut b o (fun q => S.s21 (by rw [← q]; exact hb)) e
  refine wpAny_pure ⟨_, rfl, ?_⟩
  show Q (.ref k3.objs.size) _
  have hp : IsPair (k3.push { cls := .type "tuple", data := .seq #[x, y] }) k3.objs.size x y := Heap.get?_push_size _ rfl
  have hz4 : (k3.push { cls := .type "tuple", data := .seq #[x, y] }).objs.size = k3.objs.size + 1 := Heap.size_push ..
  rw [hsz] at hp hz4 ⊢
  exact hQ x y _ t3 px py (Heap.get?_push_of_some _ hz3) (D1.frame _ _ _ st1k fun b _ o e => Heap.get?_push_of_some _ e) (D2.frame _ _ _ n2' fun b _ o e => Heap.get?_push_of_some _ e) hp hz4 fun c o c1 c2 c3 e => Heap.get?_push_of_some _ (hk c o c1 c2 c3 e)
theorem zp_end {Q : PySem.Fin → Shared → Prop} (S : Zp z TI i1 i2 fp1 fp2) (D1 : Draws prog w A i1 fp1 n1 P1 St1) (D2 : Draws prog w A i2 fp2 n2 P2 St2)
    (hz : IsZipHeld s.heap z TI TO T f) (hT : s.heap.get? T = some oT) (hTI : IsPair s.heap TI (.ref i1) (.ref i2)) (st1 : St1 i s.heap) (st2 : St2 i s.heap) (hi : i = min n1 n2)
    (hE : ∀ h' tk e, (∀ c o, c ≠ z → c ≠ i1 → c ≠ i2 → s.heap.get? c = some o → h'.get? c = some o) → (∃ o, h'.get? e = some o ∧ o.cls = .type "StopIteration") → E (.ref e) { s with heap := h', toks := tk }) :
    wpAny (model prog w) A (Builtin.«zip.__next__» ⟨[.ref z], []⟩) Q E s := by
  show wpAny _ _ (field (.ref z) 2 >>= _) _ _ _
  refine wpAny_bind (wpAny_field hz rfl (x := .bool false) rfl ?_)
  show wpAny _ _ (field (.ref z) 3 >>= _) _ _ _
  refine wpAny_bind (wpAny_field hz rfl (x := .ref TI) rfl ?_)
  refine wpAny_bind (wpAny_seqItems hTI rfl ?_)
  show wpAny _ _ (Builtin.SmallTypes.ownedTupleIsFree (.ref z) >>= _) _ _ _
  refine wpAny_bind (wpAny_tupleHeld_zip hz hT fun k1 e1 b1 => ?_)
  simp only [Bool.false_eq_true, if_false]
  refine wpAny_bind ?_
  rw [← Array.forIn_toList]
  simp only [List.forIn_cons, List.forIn_nil]
  refine wpAny_bind (wpAny_bind (wpAny_holding ?_))
  show wpAny _ _ (Builtin.SmallTypes.nextOf (.ref i1) >>= _) _ _ _
  have st1' : St1 i k1 := D1.frame i _ _ st1 fun b hb o e => b1.extBut b o (fun q => S.z1 (by rw [← q]; exact hb)) e
  have st2' : St2 i k1 := D2.frame i _ _ st2 fun b hb o e => b1.extBut b o (fun q => S.z2 (by rw [← q]; exact hb)) e
  by_cases h1 : i = n1
  · subst h1
    refine wpAny_bind (D1.done { s with heap := k1 } _ _ st1' fun h' e hs he => ?_)
    exact hE h' s.toks e (fun c o c1 c2 _ x => hs _ _ c2 (b1.extBut _ _ c1 x)) he
  · have l1 : i < n1 := by omega
    have h2 : i = n2 := by omega
    subst h2
    refine wpAny_bind (D1.item i { s with heap := k1 } _ _ l1 st1' fun x k2 t2 px n1' b2 => wpAny_pure ?_)
    refine wpAny_pure ?_
    refine wpAny_bind (wpAny_bind (wpAny_holding ?_))
    show wpAny _ _ (Builtin.SmallTypes.nextOf (.ref i2) >>= _) _ _ _
    have b2 : Heap.SameBut i1 k1 k2 := b2
    have st2'' : St2 i k2 := D2.frame i _ _ st2' fun b hb o e => b2.extBut b o (fun q => S.s12 (by rw [← q]; exact hb)) e
    refine wpAny_bind (D2.done { s with heap := k2, toks := t2 } _ _ st2'' fun h' e hs he => ?_)
    exact hE h' t2 e (fun c o c1 c2 c3 x => hs _ _ c3 (b2.extBut _ _ c2 (b1.extBut _ _ c1 x))) he
theorem zp_next {Q : Option Value → Shared → Prop} (S : Zp z TI i1 i2 fp1 fp2) (D1 : Draws prog w A.in1 i1 fp1 n1 P1 St1) (D2 : Draws prog w A.in1 i2 fp2 n2 P2 St2)
    (hz : IsZipHeld s.heap z TI TO T f) (hT : s.heap.get? T = some oT) (hTI : IsPair s.heap TI (.ref i1) (.ref i2)) (st1 : St1 i s.heap) (st2 : St2 i s.heap) (l1 : i < n1) (l2 : i < n2)
    (hQ : ∀ x y h' tk, P1 i x → P2 i y → IsZipHeld h' z TI TO T true → St1 (i + 1) h' → St2 (i + 1) h' → IsPair h' s.heap.objs.size x y → h'.objs.size = s.heap.objs.size + 1 →
      (∀ c o, c ≠ z → c ≠ i1 → c ≠ i2 → s.heap.get? c = some o → h'.get? c = some o) → Q (some (.ref s.heap.objs.size)) { s with heap := h', toks := tk }) :
    wpAny (model prog w) A (pyNext (.ref z)) Q E s := by
  have hTy : s.TypeIs (.ref z) "zip" := ⟨_, hz, rfl⟩
  unfold pyNext
  exact wpAny_bind (wpAny_attempt (wpAny_callSpecial?_slot (name := Str.ofString "__next__") hTy F.slot_zip_next
    (wpAny_call_entry F.slot_zip_next hTy F.entry_zip_next
      (zp_item S D1 D2 hz hT hTI st1 st2 l1 l2 fun x y h' tk a1 a2 a3 a4 a5 a6 a7 a8 => wpAny_pure (hQ x y h' tk a1 a2 a3 a4 a5 a6 a7 a8)) (F.args_zip_next_1 _))))
theorem zp_stop {Q : Option Value → Shared → Prop} (S : Zp z TI i1 i2 fp1 fp2) (D1 : Draws prog w A.in1 i1 fp1 n1 P1 St1) (D2 : Draws prog w A.in1 i2 fp2 n2 P2 St2)
    (hz : IsZipHeld s.heap z TI TO T f) (hT : s.heap.get? T = some oT) (hTI : IsPair s.heap TI (.ref i1) (.ref i2)) (st1 : St1 i s.heap) (st2 : St2 i s.heap) (hi : i = min n1 n2)
    (hQ : ∀ h' tk, (∀ c o, c ≠ z → c ≠ i1 → c ≠ i2 → s.heap.get? c = some o → h'.get? c = some o) → Q none { s with heap := h', toks := tk }) :
    wpAny (model prog w) A (pyNext (.ref z)) Q E s := by
  have hTy : s.TypeIs (.ref z) "zip" := ⟨_, hz, rfl⟩
  unfold pyNext
  refine wpAny_bind (wpAny_attempt (wpAny_callSpecial?_slot (name := Str.ofString "__next__") hTy F.slot_zip_next
    (wpAny_call_entry F.slot_zip_next hTy F.entry_zip_next (zp_end S D1 D2 hz hT hTI st1 st2 hi fun h' tk e hk he => ?_) (F.args_zip_next_1 _))))
  obtain ⟨o, ho, hc⟩ := he
  refine wpAny_bind (wpAny_isInstance (T := "StopIteration") (b := true) ⟨o, ho, hc⟩ isSubtype_stop ?_)
  exact wpAny_pure (hQ _ _ hk)
/-- the argument zip(a, b) -/
theorem pairArg_zp (S : ZipSep2 z TI TO i1 i2 fp1 fp2) (D1 : ∀ A : Around, A.handled = none → Draws prog w A i1 fp1 n1 P1 St1) (D2 : ∀ A : Around, A.handled = none → Draws prog w A i2 fp2 n2 P2 St2) (f1 : ∀ i h h', St1 i h → (∀ b ∈ fp1, ∀ o, h.get? b = some o → h'.get? b = some o) → St1 i h') (f2 : ∀ i h h', St2 i h → (∀ b ∈ fp2, ∀ o, h.get? b = some o → h'.get? b = some o) → St2 i h') (live1 : ∀ h, St1 0 h → ∀ b ∈ fp1, ∃ o, h.get? b = some o) (live2 : ∀ h, St2 0 h → ∀ b ∈ fp2, ∃ o, h.get? b = some o) :
    PairArg prog w "zip" z (z :: TI :: TO :: (fp1 ++ fp2)) [z, TO, i1, i2] (min n1 n2) (fun i k v => P1 i k ∧ P2 i v) (fun h => IsZip h z TI TO .none ∧ IsTupOf2 h TI (.ref i1) (.ref i2) ∧ (∃ a b, IsTupOf2 h TO a b) ∧ St1 0 h ∧ St2 0 h) where
  type := fun s ok => ⟨_, ok.1, rfl⟩
  notDict := by decide
  keep := fun h h' ⟨hz, hTI, ⟨a, b, hTO⟩, s1, s2⟩ hk => ⟨hk _ _ hz, hk _ _ hTI, ⟨a, b, hk _ _ hTO⟩, f1 _ _ _ s1 fun b _ o e => hk b o e, f2 _ _ _ s2 fun b _ o e => hk b o e⟩
  there := fun h ⟨hz, hTI, ⟨a, c, hTO⟩, s1, s2⟩ b hb => by
    rcases List.mem_cons.mp hb with e | hb
    · exact ⟨_, by rw [e]; exact hz⟩
    rcases List.mem_cons.mp hb with e | hb
    · exact ⟨_, by rw [e]; exact hTI⟩
    rcases List.mem_cons.mp hb with e | hb
    · exact ⟨_, by rw [e]; exact hTO⟩
    rcases List.mem_append.mp hb with hb | hb
    · exact live1 h s1 b hb
    · exact live2 h s2 b hb
  sub := fun b hb => by
    simp only [List.mem_cons, List.not_mem_nil, or_false] at hb
    rcases hb with rfl | rfl | rfl | rfl
    · simp
    · simp
    · simp [S.mem1]
    · simp [S.mem2]
  noKeys := fun A s Q E hA ok h => getAttrOr_miss_zip ok.1 rfl rfl rfl zip_no_keys (by decide +kernel) hA h
  iter := fun A s d Q E hA ok hd hdf h => by
    obtain ⟨hz, hTI, ⟨a, b, hTO⟩, s1, s2⟩ := ok
    have dz : d ≠ z := fun e => hdf (by simp [e])
    have dTI : d ≠ TI := fun e => hdf (by simp [e])
    have dTO : d ≠ TO := fun e => hdf (by simp [e])
    have d1 : ∀ b ∈ fp1, b ≠ d := fun b hb e => hdf (by simp [← e, hb])
    have d2 : ∀ b ∈ fp2, b ≠ d := fun b hb e => hdf (by simp [← e, hb])
    have sp : Zp z TI i1 i2 fp1 fp2 := ⟨S.zf1, S.zf2, S.mem1, S.mem2, S.sep1_2, S.sep2_1⟩
    refine wpAny_pyIter_zip hz (h z [z, TO, i1, i2] (fun i h => IsTupOf2 h TI (.ref i1) (.ref i2) ∧ St1 i h ∧ St2 i h ∧
      ((IsZip h z TI TO .none ∧ ∃ a b, IsTupOf2 h TO a b) ∨ ∃ T f oT, IsZipHeld h z TI TO T f ∧ h.get? T = some oT ∧ T ≠ z ∧ T ≠ i1 ∧ T ≠ i2 ∧ T ≠ d)) s.heap s.toks ?_
      ⟨hTI, s1, s2, .inl ⟨hz, a, b, hTO⟩⟩ (fun _ _ e => e) fun b hb => .inl hb)
    exact {
      off := fun hm => by
        simp only [List.mem_cons, List.not_mem_nil, or_false] at hm
        rcases hm with e | e | e | e
        · exact dz e
        · exact dTO e
        · exact d1 i1 S.mem1 e.symm
        · exact d2 i2 S.mem2 e.symm
      frame := fun i h₁ h₂ st hk => by
        obtain ⟨hTI, s1, s2, hz⟩ := st
        refine ⟨hk _ _ (Ne.symm dTI) hTI, f1 _ _ _ s1 fun b hb o e => hk b o (d1 b hb) e, f2 _ _ _ s2 fun b hb o e => hk b o (d2 b hb) e, ?_⟩
        rcases hz with ⟨hz, a, b, hTO⟩ | ⟨T, f, oT, hz, hT, r1, r2, r3, r4⟩
        · exact .inl ⟨hk _ _ (Ne.symm dz) hz, a, b, hk _ _ (Ne.symm dTO) hTO⟩
        · exact .inr ⟨T, f, oT, hk _ _ (Ne.symm dz) hz, hk _ _ r4 hT, r1, r2, r3, r4⟩
      item := fun i s₁ Q₁ E₁ hi st hds hQ => by
        obtain ⟨hTI, s1, s2, hz⟩ := st
        have l1 : i < n1 := Nat.lt_of_lt_of_le hi (Nat.min_le_left ..)
        have l2 : i < n2 := Nat.lt_of_lt_of_le hi (Nat.min_le_right ..)
        have lt : ∀ {c o}, s₁.heap.get? c = some o → s₁.heap.objs.size ≠ c := fun e => Nat.ne_of_gt (Heap.lt_size e)
        have g1 : s₁.heap.objs.size ≠ i1 := let ⟨_, e⟩ := (D1 A.in1 hA).live i _ s1; lt e
        have g2 : s₁.heap.objs.size ≠ i2 := let ⟨_, e⟩ := (D2 A.in1 hA).live i _ s2; lt e
        rcases hz with ⟨hz, a, b, hTO⟩ | ⟨T, f, oT, hz, hT, r1, r2, r3, r4⟩
        · refine wpAny_pyNext_zipD2_item S (D1 A.in1 hA) (D2 A.in1 hA) hz hTI hTO s1 s2 l1 l2 fun x y h' tk px py a1 a2 a3 a4 a5 a6 hk => ?_
          exact hQ s₁.heap.objs.size _ _ h' tk ⟨px, py⟩ (.inl ⟨_, a5, rfl, _, rfl⟩)
            ⟨hk _ _ S.TIz S.TITO S.TIi1 S.TIi2 hTI, a3, a4, .inr ⟨s₁.heap.objs.size, false, _, a1, a5, lt hz, g1, g2, Nat.ne_of_gt hds⟩⟩
            fun c o hc e => hk c o (fun x => hc (by simp [x])) (fun x => hc (by simp [x])) (fun x => hc (by simp [x])) (fun x => hc (by simp [x])) e
        · refine zp_next sp (D1 A.in1 hA) (D2 A.in1 hA) hz hT hTI s1 s2 l1 l2 fun x y h' tk px py a1 a3 a4 a5 a6 hk => ?_
          exact hQ s₁.heap.objs.size _ _ h' tk ⟨px, py⟩ (.inl ⟨_, a5, rfl, _, rfl⟩)
            ⟨hk _ _ S.TIz S.TIi1 S.TIi2 hTI, a3, a4, .inr ⟨T, true, oT, a1, hk _ _ r1 r2 r3 hT, r1, r2, r3, r4⟩⟩
            fun c o hc e => hk c o (fun x => hc (by simp [x])) (fun x => hc (by simp [x])) (fun x => hc (by simp [x])) e
      done := fun s₁ Q₁ E₁ st hQ => by
        obtain ⟨hTI, s1, s2, hz⟩ := st
        rcases hz with ⟨hz, a, b, hTO⟩ | ⟨T, f, oT, hz, hT, r1, r2, r3, r4⟩
        · exact wpAny_pyNext_zipD2_end S (D1 A.in1 hA) (D2 A.in1 hA) hz hTI hTO s1 s2 (Nat.min_le_left ..) (Nat.min_le_right ..) (by omega) fun h' tk hk => hQ h' tk fun c o hc e => hk c o (fun x => hc (by simp [x])) (fun x => hc (by simp [x])) (fun x => hc (by simp [x])) (fun x => hc (by simp [x])) e
        · exact zp_stop sp (D1 A.in1 hA) (D2 A.in1 hA) hz hT hTI s1 s2 rfl fun h' tk hk => hQ h' tk fun c o hc e => hk c o (fun x => hc (by simp [x])) (fun x => hc (by simp [x])) (fun x => hc (by simp [x])) e }
end
end DL
set_option maxRecDepth 100000
set_option maxHeartbeats 2000000
namespace DL
open PySem PySem.Spec L2 NdefX
section
variable {prog : Program} {w : World} {A : Around} {E : Value → Shared → Prop} {s : Shared}
/-- the object at a holds the items, and may be walked: a list or a tuple -/
structure Sq1 (a : Addr) (items : Array Value) (tup : Bool) (h : Heap) : Prop where
  at_ : if tup then h.IsTuple a items else h.IsList a items
def itO (a : Addr) : Bool → Obj
  | true => { cls := .type "tuple_iterator", data := .fields #[.ref a, .int 0 0] }
  | false => { cls := .type "list_iterator", data := .fields #[.ref a, .int 0 0] }
theorem sq_begins (a : Addr) (items : Array Value) : ∀ tup : Bool, Begins (.ref a) (itO a tup) (Sq1 a items tup)
  | true => { iter := fun prog w A E s Q h q => (begins_tuple a items).iter prog w A E s Q h.at_ q
              keeps := fun h h' x k => ⟨(begins_tuple a items).keeps h h' x.at_ k⟩
              free := rfl }
  | false => { iter := fun prog w A E s Q h q => (begins_list a items).iter prog w A E s Q h.at_ q
               keeps := fun h h' x k => ⟨(begins_list a items).keeps h h' x.at_ k⟩
               free := rfl }
def sqSt (i a : Addr) (items : Array Value) (tup : Bool) (n : Nat) (h : Heap) : Prop :=
  if tup then h.IsTupleIter i a n ∧ h.IsTuple a items else h.IsListIter i a n ∧ h.IsList a items
theorem sq_draws (i a : Addr) (hne : a ≠ i) (items : Array Value) : ∀ (tup : Bool) (A : Around), A.handled = none → Draws prog w A i [i, a] items.size (fun n v => items[n]? = some v) (sqSt i a items tup)
  | true, A, hA => Draws.tuple hA i a hne items
  | false, A, hA => Draws.list hA i a hne items
theorem sq_start {i a : Addr} {items : Array Value} : ∀ {tup : Bool} {h : Heap}, Sq1 a items tup h → h.get? i = some (itO a tup) → sqSt i a items tup 0 h
  | true, h, x, e => ⟨⟨_, e, rfl, rfl⟩, x.at_⟩
  | false, h, x, e => ⟨⟨_, e, rfl, rfl⟩, x.at_⟩
theorem sq_frame {i a : Addr} {items : Array Value} (tup : Bool) (n : Nat) (h h' : Heap) (x : sqSt i a items tup n h) (k : ∀ b ∈ [i, a], ∀ o, h.get? b = some o → h'.get? b = some o) : sqSt i a items tup n h' := by
  cases tup with
  | true => exact ⟨x.1.at fun o e => k i (by simp) o e, x.2.at fun o e => k a (by simp) o e⟩
  | false => exact ⟨x.1.at fun o e => k i (by simp) o e, x.2.at fun o e => k a (by simp) o e⟩
theorem sq_live {i a : Addr} {items : Array Value} (tup : Bool) (h : Heap) (x : sqSt i a items tup 0 h) (b : Addr) (hb : b ∈ [i, a]) : ∃ o, h.get? b = some o := by
  have x1 : ∃ o, h.get? i = some o := by cases tup with
    | true => exact let ⟨o, e, _⟩ := x.1; ⟨o, e⟩
    | false => exact let ⟨o, e, _⟩ := x.1; ⟨o, e⟩
  have x2 : ∃ o, h.get? a = some o := by cases tup with
    | true => exact let ⟨o, e, _⟩ := x.2; ⟨o, e⟩
    | false => exact let ⟨o, e, _⟩ := x.2; ⟨o, e⟩
  simp only [List.mem_cons, List.not_mem_nil, or_false] at hb
  rcases hb with rfl | rfl
  · exact x1
  · exact x2
theorem sq_old {a : Addr} {items : Array Value} {tup : Bool} {h : Heap} (x : Sq1 a items tup h) : a < h.objs.size := by
  cases tup with
  | true => exact let ⟨o, e, _⟩ := x.at_; Heap.lt_size e
  | false => exact let ⟨o, e, _⟩ := x.at_; Heap.lt_size e
theorem sep_at (n a b : Nat) (la : a < n) (lb : b < n) : ZipSep2 (n + 4) (n + 2) (n + 3) n (n + 1) [n, a] [n + 1, b] := by
  have e1 : ∀ k, n + k ≠ a := fun k => by omega
  have e2 : ∀ k, n + k ≠ b := fun k => by omega
  have e3 : n ≠ a := by omega
  have e4 : n ≠ b := by omega
  constructor <;> simp [e1, e2, e3, e4]
theorem not_new (n c : Nat) (l : c < n) (m : c ∈ [n + 4, n + 3, n, n + 1]) : False := by
  simp only [List.mem_cons, List.not_mem_nil, or_false] at m
  omega
/-- dict(zip(a, b)): a, b lists or tuples -/
theorem dict_zip2 {K : Type} [DecidableEq K] {knd : KeyKind prog w K} {a b : Addr} {xs ys : Array Value} {t1 t2 : Bool} {kvs : List (K × Value)} {Q : Value → Shared → Prop} (hA : A.handled = none)
    (h1 : Sq1 a xs t1 s.heap) (h2 : Sq1 b ys t2 s.heap) (hl : kvs.length = min xs.size ys.size) (hk : ∀ (i : Nat) (x y : Value), xs[i]? = some x → ys[i]? = some y → ∃ k, kvs[i]? = some (k, y) ∧ knd.is k x = true) (hsz : kvs.length ≤ sizeLine)
    (hQ : ∀ p h' tk, s.heap.objs.size ≤ p → h'.DictOf knd p (merged [] kvs) → (∀ c o, s.heap.get? c = some o → h'.get? c = some o) → Q (.ref p) { s with heap := h', toks := tk }) :
    wpAny (model prog w) A (call (.type "zip") [.ref a, .ref b]) (fun z s' => wpAny (model prog w) A (call (.type "dict") [z]) Q E s') E s := by
  refine zip_begins2 (sq_begins a xs t1) (sq_begins b ys t2) h1 h2 fun h' g1 g2 g3 g4 g5 hs hk' => ?_
  have la := sq_old h1
  have lb := sq_old h2
  have S : ZipSep2 (s.heap.objs.size + 4) (s.heap.objs.size + 2) (s.heap.objs.size + 3) s.heap.objs.size (s.heap.objs.size + 1) [s.heap.objs.size, a] [s.heap.objs.size + 1, b] :=
    sep_at s.heap.objs.size a b la lb
  have P := pairArg_zp (prog := prog) (w := w) S (fun A hA => sq_draws _ a (Nat.ne_of_lt la) xs t1 A hA) (fun A hA => sq_draws _ b (Nat.ne_of_lt (Nat.lt_succ_of_lt lb)) ys t2 A hA) (sq_frame t1) (sq_frame t2) (sq_live t1) (sq_live t2)
  refine call_dict_pairs (knd := knd) (kvs := kvs) P hA ⟨g1, g2, ⟨_, _, g3⟩, sq_start ((sq_begins a xs t1).keeps _ _ h1 hk') g4, sq_start ((sq_begins b ys t2).keeps _ _ h2 hk') g5⟩ ⟨hl, fun i x y q => hk i x y q.1 q.2⟩ (by omega) fun h'' tk hd hk'' => ?_
  refine hQ _ h'' tk (Nat.le_trans (Nat.le_add_right _ 5) (Nat.le_of_eq hs.symm)) hd fun c o e => hk'' c o (fun m => ?_) (hk' c o e)
  exact not_new s.heap.objs.size c (Heap.lt_size e) m
end
end DL
set_option maxRecDepth 100000
set_option maxHeartbeats 2000000
namespace DL
open PySem PySem.Spec L2 NdefX
open PyProof.Rows (boot_dict boot_zip Call_)
/-- a list or a tuple -/
def SqB (K : PySem.W.Frag) (H : Hp) (a : Addr) (xs : List V) : Prop := SqL K H a xs ∨ SqT K H a xs
theorem vals_at2 : ∀ {xs : List V} {us : List Value} {i : Nat} {x : V} {u : Value}, Vals xs us → xs[i]? = some x → us[i]? = some u → RelV x u
  | _, _, 0, _, _, .cons r _, e1, e2 => by cases e1; cases e2; exact r
  | _, _, i + 1, _, _, .cons _ t, e1, e2 => vals_at2 (i := i) t e1 e2
section
variable {X : Cx} {pins : List (Addr × Obj)} {σ : St} {H : Hp} {s : Shared}
theorem sqb_get {a : Addr} {xs : List V} (I : Inv X pins σ H s) (h : SqB X.K H a xs) : ∃ (its : List Value) (t : Bool), Vals xs its ∧ Sq1 a its.toArray t s.heap ∧ xs.length ≤ sizeLine := by
  rcases h with h | h
  · obtain ⟨its, rv, p, z⟩ := I.list h
    exact ⟨its, false, rv, ⟨p.isList⟩, z⟩
  · obtain ⟨its, rv, p, z⟩ := I.tuple h
    exact ⟨its, true, rv, ⟨p⟩, z⟩
def tDictZip (K : PySem.W.Frag) (ta : TA) : TE := fun σ H Q => ta σ H fun vs H1 => ∃ (a b : Addr) (ks : List Key) (ys : List V), vs = [.ref a, .ref b] ∧ SqB K H1 a (ks.map kV) ∧ SqB K H1 b ys ∧ ks.Nodup ∧ ks.length = ys.length ∧
  ∀ p, H1 p = none → Q (.ref p) (upd H1 p (.dK (ks.zip ys)))
theorem zip_kv : ∀ {ks : List Key} {ys : List V} {us : List Value}, Vals ys us → KV (ks.zip ys) (ks.zip us)
  | [], _, _, _ => .nil
  | k :: ks, [], _, .nil => by simp; exact .nil
  | k :: ks, y :: ys, _, .cons r t => .cons ⟨rfl, r⟩ (zip_kv t)
theorem pe_dictzip {x y : Expr} {ta : TA} {p1 p2 pos pos2 : Pos} (hd : Gl X "dict") (hmd : X.mg "dict" = none) (hz : Gl X "zip") (hmz : X.mg "zip" = none) (hc : X.calm = true) (ha : PA X [x, y] ta)
    (hs : starEach [x, y] X.env = (false, eval x X.env) :: starEach [y] X.env := by rfl) (hs2 : (backTo pos2 (starEach [y] X.env)).any (·.1) = false := by rfl)
    (hs3 : starEach [.Call (.Name "zip" p2) [x, y] [] pos2] X.env = [(false, eval (.Call (.Name "zip" p2) [x, y] [] pos2) X.env)] := by rfl) :
    PE X (.Call (.Name "dict" p1) [.Call (.Name "zip" p2) [x, y] [] pos2] [] pos) (tDictZip X.K ta) := by
  refine ⟨fun pins s σ H Q I h => ?_⟩
  refine Call_ (ld_blt I hd hmd boot_dict (PyProof.Rows.callWith_type1 ?_ hs3 rfl))
  rw [hs3]
  show wpAny _ _ (spliced [(false, eval (.Call (.Name "zip" p2) [x, y] [] pos2) X.env)]) _ _ s
  refine Calls.spliced_cons ?_
  refine Call_ (ld_blt I hz hmz boot_zip (PyProof.Rows.callWith_type1 (thn (ha.run pos2 pins s σ H _ I h) fun us s1 ⟨vs, H1, I1, r1, q1⟩ => ?_) hs hs2))
  obtain ⟨a, b, ks, ys, e, ga, gb, hn, hl, q⟩ := q1
  subst e
  obtain ⟨u1, r, rfl, e1, r1⟩ : ∃ u r, us = u :: r ∧ RelV (.ref a) u ∧ Vals [V.ref b] r := by
    cases r1 with
    | cons x y => exact ⟨_, _, rfl, x, y⟩
  obtain ⟨u2, rfl, e2⟩ : ∃ u, r = [u] ∧ RelV (.ref b) u := by
    cases r1 with
    | cons x y => cases y; exact ⟨_, rfl, x⟩
  obtain rfl : u1 = .ref a := e1
  obtain rfl : u2 = .ref b := e2
  obtain ⟨xu, t1, rv1, g1, z1⟩ := sqb_get I1 ga
  obtain ⟨yu, t2, rv2, g2, z2⟩ := sqb_get I1 gb
  have l1 : ks.length = xu.length := by rw [← Paired.length rv1, List.length_map]
  have l2 : ys.length = yu.length := Paired.length rv2
  have kk : ((ks.zip yu).map (·.1)).Nodup := by
    rw [List.map_fst_zip (by omega)]; exact hn
  refine thn (dict_zip2 (knd := mixKind X.prog X.w) (kvs := ks.zip yu) (I1.ok.hd hc) g1 g2 ?_ ?_ ?_ fun p h' tk hp hd hk => ?_) fun _ _ z => Calls.spliced_nil z
  · rw [List.length_zip, l1]; simp
  · intro i x y ex ey
    have ex : xu[i]? = some x := by simpa using ex
    have ey : yu[i]? = some y := by simpa using ey
    obtain ⟨k, ek⟩ : ∃ k, ks[i]? = some k := ⟨ks[i]'(by rw [l1]; exact (List.getElem?_eq_some_iff.mp ex).1), List.getElem?_eq_getElem _⟩
    refine ⟨k, by rw [List.getElem?_zip_eq_some]; exact ⟨ek, ey⟩, ?_⟩
    exact kV_is (vals_at2 rv1 (by rw [List.getElem?_map, ek]; rfl) ex)
  · rw [List.length_zip]; omega
  · rw [merged_nil_of_nodup _ kk] at hd
    refine ⟨.ref p, upd H1 p (.dK (ks.zip ys)), I1.laid hk hp (dk_new ?_ (beq_eq_false_iff_ne.mpr fun e => ?_) (zip_kv rv2) hd), rfl, q p (I1.hok.fresh hp)⟩
    · rw [List.length_zip]; omega
    · have := I1.big
      rw [e] at hp
      exact absurd hp (Nat.not_le_of_lt this)
end
def keysD : List D → Option (List L2.Key)
  | [] => some []
  | d :: ds => match keyD d, keysD ds with
    | some k, some ks => some (k :: ks)
    | _, _ => none
theorem keysD_rel {S : Sta} {H0 : Hp} {mm : List Addr} : ∀ {ds : List D} {vs : List V} {ks : List L2.Key}, keysD ds = some ks → Dps S H0 mm vs ds → vs = ks.map kV
  | [], vs, ks, e, h => by
    cases e
    exact h
  | d :: ds, vs, ks, e, h => by
    obtain ⟨v, r, rfl, q, t⟩ := h
    unfold keysD at e
    cases e1 : keyD d with
    | none => rw [e1] at e; cases e
    | some k =>
      cases e2 : keysD ds with
      | none => rw [e1, e2] at e; cases e
      | some l =>
        rw [e1, e2] at e
        cases e
        rw [keyD_V (H := H0) e1 (Rdd.of (fun _ _ z => z) q), keysD_rel e2 t]
        rfl
/-- what dict(zip(x, y)) gives -/
def hDictZip (as : List D) : EF Vl := match as with
  | [x, y] => (match sq1 [x], sq1 [y] with
    | some ds, some es => (match keysD ds with
      | some ks => fun ρ μ => if decide ks.Nodup && ks.length == es.length then .ok (.frs (.dic ds es)) ρ μ else .no
      | none => stuck)
    | _, _ => stuck)
  | _ => stuck
def gDictZip (t : EF (List D)) : EF Vl := bnd t hDictZip
section
variable {S : Sta} {W : WX} {X : Cx} {t : EF (List D)} {x y : Expr} {p1 p2 pos pos2 : Pos}
theorem e_dictzip (hK : X.K = S.K) (hd : Gl X "dict") (hmd : X.mg "dict" = none) (hz : Gl X "zip") (hmz : X.mg "zip" = none) (hc : X.calm = true) (ha : PA X [x, y] (ra S W t))
    (hs : starEach [x, y] X.env = (false, eval x X.env) :: starEach [y] X.env := by rfl) (hs2 : (backTo pos2 (starEach [y] X.env)).any (·.1) = false := by rfl)
    (hs3 : starEach [.Call (.Name "zip" p2) [x, y] [] pos2] X.env = [(false, eval (.Call (.Name "zip" p2) [x, y] [] pos2) X.env)] := by rfl) :
    PE X (.Call (.Name "dict" p1) [.Call (.Name "zip" p2) [x, y] [] pos2] [] pos) (rd S W (gDictZip t)) := by
  refine PE.weak (pe_dictzip hd hmd hz hmz hc ha hs hs2 hs3) fun σ H Q h => ?_
  rw [hK]
  refine rd_mono (rk_push (k := knA S) stay0 (rk_start h)) fun vs H1 h1 => rk_go h1 fun G H0 mm ρ μ a pa ok en => ?_
  obtain ⟨_, ds⟩ := a
  have vds : Dps S H0 mm vs ds := pa.2
  replace en : EndV S W H0 H1 mm σ ρ Q (hDictZip ds ρ μ) := en
  unfold hDictZip at en
  match ds, vds, en with
  | [], _, en => exact en.elim
  | [_], _, en => exact en.elim
  | _ :: _ :: _ :: _, _, en => exact en.elim
  | [dx, dy], vds, en =>
    obtain ⟨v1, r, rfl, q1, v2, r2, rfl, q2, e0⟩ := vds
    cases (show r2 = [] from e0)
    cases s1 : sq1 [dx] with
    | none => simp only [s1] at en; exact en.elim
    | some xs =>
      cases s2 : sq1 [dy] with
      | none => simp only [s1, s2] at en; exact en.elim
      | some ys =>
        simp only [s1, s2] at en
        cases ek : keysD xs with
        | none => simp only [ek] at en; exact en.elim
        | some ks =>
          simp only [ek] at en
          obtain ⟨a, ws, ea, da, ga⟩ := sq1_rel s1 (vs := [v1]) ⟨_, _, rfl, q1, rfl⟩
          obtain ⟨b, zs, eb, db, gb⟩ := sq1_rel s2 (vs := [v2]) ⟨_, _, rfl, q2, rfl⟩
          cases ea
          cases eb
          by_cases hb : (decide ks.Nodup && ks.length == ys.length) = true
          · rw [if_pos hb] at en
            rw [Bool.and_eq_true, decide_eq_true_eq, beq_iff_eq] at hb
            have ew := keysD_rel ek da
            subst ew
            have el : ks.length = zs.length := by rw [hb.2, db.length]
            refine ⟨a, b, ks, zs, rfl, ?_, ?_, hb.1, el, fun p hp => fin_dic ok (EndV.fin en) ?_ ?_ hp⟩
            · exact ga.imp (sqL_sub ok.g.sub) (sqT_sub ok.g.sub)
            · exact gb.imp (sqL_sub ok.g.sub) (sqT_sub ok.g.sub)
            · have : ((ks.zip zs).map fun p => kV p.1) = ks.map kV := by
                rw [← List.map_fst_zip (l₁ := ks) (l₂ := zs) (by omega), List.map_map]
                simp [List.map_fst_zip, el]
              rw [this]; exact da
            · rw [List.map_snd_zip (by omega)]; exact db
          · rw [if_neg hb] at en; exact en.elim
end
end DL
set_option maxRecDepth 100000
set_option maxHeartbeats 2000000
/-! == by an own __eq__, of instances and of tuples with such in them. -/
namespace DL
open PySem PySem.Spec L2 NdefX

/-- two that are seen to be equal: plain ones, or two instances of C, by their own == -/
def EqT1 (C : Str) (m : DF) (μ : Mu) (a b : D) : Prop := eqB a b = some true ∨ ∃ f1 f2, a = .obj C f1 ∧ b = .obj C f2 ∧ m [a, b] μ = .ok (.bl true) μ
def EqTs (C : Str) (m : DF) (μ : Mu) : List D → List D → Prop
  | [], [] => True
  | a :: as, b :: bs => EqT1 C m μ a b ∧ EqTs C m μ as bs
  | _, _ => False
theorem EqTs.len {C : Str} {m : DF} {μ : Mu} : ∀ {as bs : List D}, EqTs C m μ as bs → as.length = bs.length
  | [], [], _ => rfl
  | a :: as, b :: bs, h => by rw [List.length_cons, List.length_cons, EqTs.len h.2]
  | [], _ :: _, h => h.elim
  | _ :: _, [], h => h.elim
theorem EqTs.get {C : Str} {m : DF} {μ : Mu} : ∀ {as bs : List D} {i : Nat} {a b : D}, EqTs C m μ as bs → as[i]? = some a → bs[i]? = some b → EqT1 C m μ a b
  | a :: as, b :: bs, 0, _, _, h, e1, e2 => by cases e1; cases e2; exact h.1
  | a :: as, b :: bs, i + 1, _, _, h, e1, e2 => EqTs.get (i := i) h.2 (by simpa using e1) (by simpa using e2)
  | [], _, _, _, _, _, e1, _ => by simp at e1
  | _ :: _, [], _, _, _, h, _, _ => h.elim
section
variable {S : Sta} {X : Cx} {C : Str} {m : DF} {n : Nat} {A : Around} {pins : List (Addr × Obj)} {s : Shared} {σ : St} {H H0 : Hp} {mm : List Addr} {μ : Mu}
/-- what stands behind a comparison -/
def AfterEq (S : Sta) (X : Cx) (pins : List (Addr × Obj)) (σ : St) (H0 H : Hp) (mm : List Addr) (μ : Mu) (s' : Shared) : Prop := ∃ H0' H' mm', Inv X pins σ H' s' ∧ Glo S H0' H' mm' μ ∧ Nx (fun _ => False) H0 H mm H0' H' mm'
theorem rc_own {a b : Addr} {μ' : Mu} {k : Bool} {f1 f2 : List (Str × D)} (hK : X.K = S.K) (c : CM X.prog X.w S X.mg X.base n C "__eq__" 2 m) (sb : L2.Sub X n A) (I : Inv X pins σ H s) (g : Glo S H0 H mm μ)
    (ha : Dp S H0 mm (.ref a) (.obj C f1)) (hb : Dp S H0 mm (.ref b) (.obj C f2)) (hm : m [.obj C f1, .obj C f2] μ = .ok (.bl k) μ') :
    wpAny (model X.prog X.w) A (richCompare .Eq (.ref a) (.ref b)) (fun r s' => r = .bool k ∧ ∃ H0' H' mm', Inv X pins σ H' s' ∧ Glo S H0' H' mm' μ' ∧ Nx (fun _ => False) H0 H mm H0' H' mm') X.xe s := by
  obtain ⟨cc, gf, fd, ps, M, F, bd⟩ := c
  rw [← hK] at cc M F bd
  have sp : spF S 2 m [.ref a, .ref b] H (fun v H' => v = .bl k ∧ ∃ H0' mm', Glo S H0' H' mm' μ' ∧ Nx (fun _ => False) H0 H mm H0' H' mm') (fun _ _ _ => False) := by
    refine ⟨H0, mm, [.obj C f1, .obj C f2], μ, g, .cons ha (.cons hb .nil), rfl, ?_⟩
    rw [hm]
    exact fun v H0' H' mm' g' n' dv => ⟨dv, H0', mm', g', n'⟩
  obtain ⟨a', dx, fs, ea, q1, _⟩ := id ha
  obtain ⟨b', dy, gs, eb, q2, _⟩ := id hb
  cases ea
  cases eb
  rw [← hK] at q1 q2
  obtain ⟨mA, J, _⟩ := ins_get I.hok (g.sub _ _ q1)
  obtain ⟨mB, J', _⟩ := ins_get I.hok (g.sub _ _ q2)
  obtain ⟨od, J, _⟩ := J.look
  obtain ⟨od', J', _⟩ := J'.look
  obtain ⟨mf, hF⟩ := I.fr
  refine PySem.W.cmp_K (op := .Eq) (tb := .ref (He.ga X.K C)) sb.room.units0 hF I.ok.mod.kin J J'.type (by simp [PySem.W.notFirst]) M.at_ M.fn ?_
  have e0 : Env0 X.prog X.w X.K X.mg X.base A X.stack s H := by
    have e := I.env0
    exact ⟨by rw [sb.fr]; exact e.frames, e.mod, e.bs, e.bsz, e.funs, e.frf, e.hok, e.bare⟩
  have hl := F.len _ _ _ _ sp
  have r2 : Vals [V.ref a, V.ref b] [Value.ref a, Value.ref b] := .cons rfl (.cons rfl .nil)
  refine wpAny_call (codeAny_mono (F.run A X.stack s H ⟨[.ref a, .ref b], []⟩ [.ref a, .ref b] [.ref a, .ref b] _ _ sb.room e0 (by
    have := bd s [.ref a, .ref b] I.kIn (by simpa using hl)
    simpa using this) r2 sp) fun r s' hq => ?_)
  cases r with
  | error e => obtain ⟨_, _, _, _, _, _, _, _, _, _, _, _, z⟩ := hq; exact z.elim
  | ok fl =>
    cases fl with
    | ret w =>
      obtain ⟨z, H', I', rz, ez, H0', mm', g', n'⟩ := I.after hq
      subst ez
      cases rz
      exact ⟨rfl, H0', H', mm', I', g', n'⟩
    | next => exact False.elim hq
    | brk => exact False.elim hq
    | cont => exact False.elim hq
/-- one item beside another one -/
theorem eq_item {x y : V} {u v : Value} {a b : D} (hK : X.K = S.K) (c : CM X.prog X.w S X.mg X.base n C "__eq__" 2 m) (sb : L2.Sub X n A) (I : Inv X pins σ H s) (g : Glo S H0 H mm μ) (rx : RelV x u) (ry : RelV y v)
    (ha : Dp S H0 mm x a) (hb : Dp S H0 mm y b) (h : EqT1 C m μ a b) : wpAny (model X.prog X.w) A (eqBool u v) (fun r s' => r = true ∧ AfterEq S X pins σ H0 H mm μ s') X.xe s := by
  have here : AfterEq S X pins σ H0 H mm μ s := ⟨H0, H, mm, I, g, .refl⟩
  rcases h with h | ⟨f1, f2, rfl, rfl, hm⟩
  · obtain ⟨p, q, e1, e2, h1, h2, e⟩ := eqB_some h
    obtain ⟨as, r1⟩ := L2.Dp.reads I p x u (by rw [hK]; exact rel_py g.sub a ha e1) rx
    obtain ⟨bs, r2⟩ := L2.Dp.reads I q y v (by rw [hK]; exact rel_py g.sub b hb e2) ry
    have := SeqAt.eqAt_reads p q A s u v as bs r1 r2 (SeqAt.canLay_of_shaped h1) (SeqAt.canLay_of_shaped h2) (SeqAt.room_of_shaped h1 sb.room.units)
    rw [← e] at this
    exact this X.prog X.w X.xe _ ⟨rfl, here⟩
  · obtain ⟨xa, _, _, rfl, _, _⟩ := id ha
    obtain ⟨ya, _, _, rfl, _, _⟩ := id hb
    cases rx
    cases ry
    by_cases hab : xa = ya
    · subst hab
      exact SeqAt.EqAt.same (A := A) (s := s) (.ref xa) X.prog X.w X.xe _ ⟨rfl, here⟩
    · refine GQ.eqBool_refG hab (wpAny_mono (rc_own hK c sb I g ha hb hm) (fun r s' z => ?_) fun _ _ z => z)
      obtain ⟨hr, z⟩ := z
      exact ⟨true, hr, rfl, z⟩
theorem AfterEq.trans {s' s2 : Shared} {H0' H' : Hp} {mm' : List Addr} (n1 : Nx (fun _ => False) H0 H mm H0' H' mm') (z : AfterEq S X pins σ H0' H' mm' μ s2) : AfterEq S X pins σ H0 H mm μ s2 :=
  let ⟨H02, H2, mm2, I2, g2, n2⟩ := z
  ⟨H02, H2, mm2, I2, g2, n1.trans .refl n2⟩
/-- tuples, item by item -/
theorem rc_tups {a b : Addr} {as bs : List D} (hK : X.K = S.K) (c : CM X.prog X.w S X.mg X.base n C "__eq__" 2 m) (sb : L2.Sub X (n + 1) A) (I : Inv X pins σ H s) (g : Glo S H0 H mm μ)
    (ha : Dp S H0 mm (.ref a) (.tup as)) (hb : Dp S H0 mm (.ref b) (.tup bs)) (h : EqTs C m μ as bs) : wpAny (model X.prog X.w) A (richCompare .Eq (.ref a) (.ref b)) (fun r s' => r = .bool true ∧ AfterEq S X pins σ H0 H mm μ s') X.xe s := by
  obtain ⟨a', xs, ea, q1, d1⟩ := id ha
  obtain ⟨b', ys, eb, q2, d2⟩ := id hb
  cases ea
  cases eb
  obtain ⟨its, r, e, z⟩ := I.tuple (by rw [hK]; exact sqT_sub g.sub q1)
  obtain ⟨its2, r2, e2, z2⟩ := I.tuple (by rw [hK]; exact sqT_sub g.sub q2)
  have hsz : its.toArray.size = its2.toArray.size := by rw [List.size_toArray, List.size_toArray, ← r.length, ← r2.length, d1.length, d2.length]; exact h.len
  refine GQ.rc_tupG hsz sb.room.units0 (fun _ s' => AfterEq S X pins σ H0 H mm μ s') e e2 (fun i h1 h2 s' q => ?_) (fun s' q => ⟨rfl, q⟩) ⟨H0, H, mm, I, g, .refl⟩
  obtain ⟨H0', H', mm', I', g', n'⟩ := q
  have h1' : i < its.length := by simpa using h1
  have h2' : i < its2.length := by simpa using h2
  have k1 : i < xs.length := by rw [r.length]; exact h1'
  have k2 : i < ys.length := by rw [r2.length]; exact h2'
  have j1 : i < as.length := by rw [← d1.length]; exact k1
  have j2 : i < bs.length := by rw [← d2.length]; exact k2
  obtain ⟨x, ex, dx⟩ := d1.get (List.getElem?_eq_getElem j1)
  obtain ⟨y, ey, dy⟩ := d2.get (List.getElem?_eq_getElem j2)
  obtain ⟨u, hu, ru⟩ := r.get ex
  obtain ⟨v, hv, rv⟩ := r2.get ey
  have g1 : its.toArray[i] = u := by
    rw [List.getElem?_eq_getElem h1'] at hu
    simpa using hu
  have g2 : its2.toArray[i] = v := by
    rw [List.getElem?_eq_getElem h2'] at hv
    simpa using hv
  rw [g1, g2]
  refine wpAny_mono (eq_item hK c sb.in1 I' g' ru rv (dx.nx n') (dy.nx n') (h.get (List.getElem?_eq_getElem j1) (List.getElem?_eq_getElem j2))) (fun r s2 q => ?_) fun _ _ x => x
  exact ⟨q.1, AfterEq.trans (s' := s') n' q.2⟩
end
open Classical in
/-- == of two tuples with instances of C in them; of two instances -/
noncomputable def hEqO (C : Str) (m : DF) (a b : D) : EF Vl := fun ρ μ => match a, b with
  | .tup as, .tup bs => if EqTs C m μ as bs then .ok (.val (.bl true)) ρ μ else .no
  | .obj C1 f1, .obj C2 f2 => if C1 = C ∧ C2 = C then (match m [.obj C1 f1, .obj C2 f2] μ with
    | .ok (.bl k) μ' => .ok (.val (.bl k)) ρ μ'
    | _ => .no) else .no
  | _, _ => .no
noncomputable def eqOV (C : Str) (m : DF) (x y : Vl) : EF Vl := match x, y with
  | .val a, .val b => hEqO C m a b
  | _, _ => stuck
noncomputable def gEqO (C : Str) (m : DF) (ga gb : EF Vl) : EF Vl := bnd (gFrz ga) fun x => bnd (gFrz gb) fun y => eqOV C m x y
section
variable {S : Sta} {W : WX} {X : Cx} {a b : Expr} {ga gb : EF Vl} {pos : Pos} {C : Str} {m : DF} {n j : Nat}
def rEqO (S : Sta) (C : Str) (m : DF) : R2 := fun x y H Q => ∃ H0 mm μ μ' da db k, Glo S H0 H mm μ ∧ Dp S H0 mm x da ∧ Dp S H0 mm y db ∧ (∀ ρ, hEqO C m da db ρ μ = .ok (.val (.bl k)) ρ μ') ∧ ∀ H0' H' mm', Glo S H0' H' mm' μ' → Nx (fun _ => False) H0 H mm H0' H' mm' → Q (.bl k) H'
open Classical in
theorem op_eqO (hK : X.K = S.K) (c : CM X.prog X.w S X.mg X.base n C "__eq__" 2 m) (hr : Room (n + 1) X.A) : OpR X (compareOp .Eq) (rEqO S C m) := by
  intro pins s σ H x y v u Q I rx ry hq
  obtain ⟨H0, mm, μ, μ', da, db, k, g, ha, hb, hm, q⟩ := hq
  show wpAny (model X.prog X.w) X.A (richCompare .Eq v u) (EP X pins σ Q) X.xe s
  replace hm := hm []
  cases da with
  | tup as =>
    cases db with
    | tup bs =>
      replace hm : (if EqTs C m μ as bs then R.ok (Vl.val (.bl true)) [] μ else R.no) = .ok (.val (.bl k)) [] μ' := hm
      obtain ⟨xa, _, rfl, _⟩ := id ha
      obtain ⟨ya, _, rfl, _⟩ := id hb
      cases rx
      cases ry
      split at hm
      · rename_i he
        cases hm
        refine wpAny_mono (rc_tups hK c (A := X.A) ⟨hr, rfl⟩ I g ha hb he) (fun r s' z => ?_) fun _ _ z => z
        obtain ⟨rfl, H0', H', mm', I', g', n'⟩ := z
        exact ⟨.bl true, H', I', rfl, q _ _ _ g' n'⟩
      · cases hm
    | _ => cases hm
  | obj C1 f1 =>
    cases db with
    | obj C2 f2 =>
      replace hm : (if C1 = C ∧ C2 = C then (match m [.obj C1 f1, .obj C2 f2] μ with
    | .ok (.bl k) μ' => R.ok (Vl.val (.bl k)) [] μ'
    | _ => R.no) else R.no) = .ok (.val (.bl k)) [] μ' := hm
      obtain ⟨xa, _, _, rfl, _⟩ := id ha
      obtain ⟨ya, _, _, rfl, _⟩ := id hb
      cases rx
      cases ry
      split at hm
      · rename_i hc
        obtain ⟨rfl, rfl⟩ := hc
        split at hm
        · rename_i k2 μ2 e
          cases hm
          refine wpAny_mono (rc_own hK c (A := X.A) ⟨hr.mono (Nat.le_succ n), rfl⟩ I g ha hb e) (fun r s' z => ?_) fun _ _ z => z
          obtain ⟨rfl, H0', H', mm', I', g', n'⟩ := z
          exact ⟨.bl _, H', I', rfl, q _ _ _ g' n'⟩
        · cases hm
      · cases hm
    | _ => cases hm
  | _ => cases hm
open Classical in
theorem hEqO_some {da db : D} {ρ : Env} {μ : Mu} : hEqO C m da db ρ μ = .no ∨ ∃ k μ', hEqO C m da db ρ μ = .ok (.val (.bl k)) ρ μ' ∧ ∀ ρ', hEqO C m da db ρ' μ = .ok (.val (.bl k)) ρ' μ' := by
  unfold hEqO
  split
  · rename_i as bs
    by_cases h : EqTs C m μ as bs
    · exact .inr ⟨true, μ, if_pos h, fun ρ' => if_pos h⟩
    · exact .inl (if_neg h)
  · rename_i C1 f1 C2 f2
    by_cases h : C1 = C ∧ C2 = C
    · rw [if_pos h]
      cases q : m [.obj C1 f1, .obj C2 f2] μ with
      | ok d μ' =>
        cases d with
        | bl k => exact .inr ⟨k, μ', rfl, fun ρ' => by rw [if_pos h]⟩
        | _ => exact .inl rfl
      | _ => exact .inl rfl
    · exact .inl (if_neg h)
  · exact .inl rfl
theorem t_eqO {σ : St} {H : Hp} {Q : VK} (h : rd S W (gEqO C m ga gb) σ H Q) : tOp (rEqO S C m) (rd S W (gFrz ga)) (rd S W (gFrz gb)) σ H Q := by
  refine rd_mono (rk_push (k := knV S) stay0 (rk_start h)) fun v H1 h1 => rd_mono (rk_push (k := knV S) (stayV stay0) h1) fun w H2 h2 => ?_
  obtain ⟨H0p, Hp, mmp, ρp, H0, mm, ρ, μ, ⟨⟨_, x⟩, y⟩, ok, nx, ow, ho, ⟨⟨_, vx⟩, vy⟩, en⟩ := h2
  have vx : VlOk S Hp H0 H2 mm σ ρ v x := vx
  have vy : VlOk S Hp H0 H2 mm σ ρ w y := vy
  replace en : EndV S W H0p Hp mmp σ ρp Q (eqOV C m x y ρ μ) := en
  cases x with
  | val da =>
    cases y with
    | val db =>
      replace en : EndV S W H0p Hp mmp σ ρp Q (hEqO C m da db ρ μ) := en
      rcases hEqO_some (C := C) (m := m) (da := da) (db := db) (ρ := ρ) (μ := μ) with e | ⟨k, μ', e, e'⟩
      · rw [e] at en; exact en.elim
      · rw [e] at en
        exact ⟨H0, mm, μ, μ', da, db, k, ok.g, vx, vy, e', fun H0' H' mm' g n => en (.bl k) H0' H' mm' (ok.call g n) (nx.trans ow n.of_call) (fun a h => ow a h) ho rfl⟩
    | _ => exact en.elim
  | _ => exact en.elim
theorem e_eqO (hK : X.K = S.K) (c : CM X.prog X.w S X.mg X.base n C "__eq__" 2 m) (hr : Room j X.A) (hk : n + 1 ≤ j) (ha : PE X a (rd S W ga)) (hb : PE X b (rd S W gb)) (hm : behindInMarks .Eq b = false) : PE X (.Compare a [.Eq] [b] pos) (rd S W (gEqO C m ga gb)) :=
  PE.weak (pe_cmpR (op_eqO hK c (hr.mono hk)) (e_frz ha) (e_frz hb) hm) fun _ _ _ => t_eqO
end
end DL
set_option maxRecDepth 100000
set_option maxHeartbeats 2000000
/-! The head: what is looked at behind the program's top. -/
namespace DL
open PySem PySem.Spec L2 NdefX He

/-! ### properties' getters -/
structure PrD where
  C : Str
  f : Str
  qual : Str
  params : Arguments
  body : List Stmt
  scope : Scope
def pP (K : PySem.W.Frag) (C f : Str) : Addr := match PySem.W.findIn K (.ref (ga K C)) f with
  | some (some (.ref p)) => p
  | _ => 0
def pG (K : PySem.W.Frag) (C f : Str) : Addr := match PySem.W.recIn K (pP K C f) "property" with
  | some (.ref g :: _) => g
  | _ => 0
def fnWA (K : PySem.W.Frag) (a : Addr) : FnW := match K.lookup a with
  | some ⟨_, _, .func fd, _⟩ => some (fd.name, fd.qualname, fd.params, fd.body, fd.scope, fd.globals, fd.closure, fd.builtins)
  | _ => none
def PrD.val (d : PrD) : FnW := some (d.f, d.qual, d.params, .stmts d.body, d.scope, mainGlobals, [], builtinsNs)
def recB (K : PySem.W.Frag) (p g : Addr) : Bool := match PySem.W.recIn K p "property" with
  | some (.ref g' :: _) => decide (g' = g)
  | _ => false
def getB (K : PySem.W.Frag) (g : Addr) (q : Str) : Bool := match K.lookup g with
  | some ⟨_, _, .func fd, _⟩ => PySem.W.codeIn K fd.code q && (dflB K fd.defaults [] && kwdB K fd.kwdefaults [])
  | _ => false
def PrD.ok (K : PySem.W.Frag) (d : PrD) : Bool := eqO (PySem.W.findIn K (.ref (ga K d.C)) d.f) (some (some (.ref (pP K d.C d.f)))) && (eqO (PySem.W.specialIn K (.ref (pP K d.C d.f)) "__get__") (some (some (.builtin "property.__get__"))) &&
  (decide (PySem.W.takesIn K (.ref (pP K d.C d.f)) = some true) && (recB K (pP K d.C d.f) (pG K d.C d.f) && (PySem.W.keepIn K (.ref (pG K d.C d.f)) && getB K (pG K d.C d.f) d.qual))))
theorem recB_ok {K : PySem.W.Frag} {p g : Addr} (h : recB K p g = true) : ∃ rest, PySem.W.recIn K p "property" = some (.ref g :: rest) := by
  unfold recB at h
  split at h
  · rename_i g' rest e
    rw [of_decide_eq_true h] at e
    exact ⟨rest, e⟩
  · cases h
theorem getB_ok {K : PySem.W.Frag} {g : Addr} {f q : Str} {params : Arguments} {body : List Stmt} {scope : Scope} (kp : PySem.W.keepIn K (.ref g) = true) (h : getB K g q = true) (e : fnWA K g = some (f, q, params, .stmts body, scope, mainGlobals, [], builtinsNs)) :
    ∃ fd, FunD K f q params body scope [] [] g fd := by
  unfold fnWA at e
  unfold getB at h
  cases z : K.lookup g with
  | none => rw [z] at h; cases h
  | some o =>
    obtain ⟨oc, od, dt, osl⟩ := o
    rw [z] at h e
    cases dt with
    | func fd =>
      obtain ⟨n1, n2, n3, n4, n5, n6, n7, n8, n9, n10, n11, n12, n13, n14, n15⟩ := fd
      have e2 : (some (n1, n2, n3, n4, n5, n6, n7, n15) : FnW) = some (f, q, params, .stmts body, scope, mainGlobals, [], builtinsNs) := e
      simp only [Option.some.injEq, Prod.mk.injEq] at e2
      obtain ⟨h1, h2, h3, h4, h5, h6, h7, h8⟩ := e2
      subst h1 h2 h3 h4 h5 h6 h7 h8
      obtain ⟨k1, k2⟩ := ba (show (PySem.W.codeIn K n13 n2 && (dflB K n8 [] && kwdB K n9 [])) = true from h)
      obtain ⟨k3, k4⟩ := ba k2
      exact ⟨_, ⟨oc, od, n8, n9, n10, n11, n12, n13, n14, osl, rfl, z, k1, dflB_ok k3, kwdB_ok k4⟩, kp⟩
    | _ => cases h
theorem PrD.get {K : PySem.W.Frag} {d : PrD} (c : d.ok K = true) (e : fnWA K (pG K d.C d.f) = d.val) : ∃ p g fd, PropOf K (ga K d.C) d.f p g ∧ FunD K d.f d.qual d.params d.body d.scope [] [] g fd := by
  obtain ⟨c1, c⟩ := ba c
  obtain ⟨c2, c⟩ := ba c
  obtain ⟨c3, c⟩ := ba c
  obtain ⟨c4, c⟩ := ba c
  obtain ⟨c5, c6⟩ := ba c
  obtain ⟨fd, F⟩ := getB_ok c5 c6 e
  exact ⟨_, _, fd, ⟨eqO_ok c1, eqO_ok c2, of_decide_eq_true c3, recB_ok c4⟩, F⟩

/-! ### constants of the text -/
mutual
def cstB (K : PySem.W.Frag) : D → Value → Bool
  | .non, .none => true
  | .bl b, .bool c => b == c
  | .int i, .int j _ => decide (i = j)
  | .str x, .str y _ => decide (x = y)
  | .glo x, .ref a => decide (a = ga K x)
  | .ty n, .type m => decide (n = m)
  | .tup ds, .ref a => (match K.lookup a with
    | some ⟨.type c, _, .seq its _, _⟩ => decide (c = "tuple") && (decide (its.size ≤ sizeLine) && cstA K ds its.toList)
    | _ => false)
  | _, _ => false
def cstA (K : PySem.W.Frag) : List D → List Value → Bool
  | [], [] => true
  | d :: ds, u :: us => cstB K d u && cstA K ds us
  | _, _ => false
end
mutual
theorem cstB_ok {S : Sta} {u : Value} : ∀ {d : D}, cstB S.K d u = true → ∃ v, RelV v u ∧ ∀ H0 mm, Dp S H0 mm v d
  | .non, h => by
    cases u with
    | none => exact ⟨.non, rfl, fun _ _ => rfl⟩
    | _ => cases h
  | .bl b, h => by
    cases u with
    | bool c => exact ⟨.bl b, by rw [eq_of_beq (show (b == c) = true from h)]; rfl, fun _ _ => rfl⟩
    | _ => cases h
  | .int i, h => by
    cases u with
    | int j t => exact ⟨.int i, ⟨t, by rw [of_decide_eq_true (show decide (i = j) = true from h)]⟩, fun _ _ => rfl⟩
    | _ => cases h
  | .str x, h => by
    cases u with
    | str y t => exact ⟨.str x, ⟨t, by rw [of_decide_eq_true (show decide (x = y) = true from h)]⟩, fun _ _ => rfl⟩
    | _ => cases h
  | .glo x, h => by
    cases u with
    | ref a => exact ⟨.ref a, rfl, fun _ _ => by rw [of_decide_eq_true (show decide (a = ga S.K x) = true from h)]; rfl⟩
    | _ => cases h
  | .ty n, h => by
    cases u with
    | type m => exact ⟨.ty n, by rw [of_decide_eq_true (show decide (n = m) = true from h)]; rfl, fun _ _ => rfl⟩
    | _ => cases h
  | .tup ds, h => by
    cases u with
    | ref a =>
      replace h : (match S.K.lookup a with
        | some ⟨.type c, _, .seq its _, _⟩ => decide (c = "tuple") && (decide (its.size ≤ sizeLine) && cstA S.K ds its.toList)
        | _ => false) = true := h
      split at h
      · rename_i c od its n sl e
        obtain ⟨h1, h⟩ := ba h
        obtain ⟨h2, h3⟩ := ba h
        obtain ⟨vs, r, dv⟩ := cstA_ok h3
        exact ⟨.ref a, rfl, fun H0 mm => ⟨a, vs, rfl, .inr ⟨_, its, n, e, congrArg Value.type (of_decide_eq_true h1), rfl, of_decide_eq_true h2, r⟩, dv H0 mm⟩⟩
      · cases h
    | _ => cases h
  | .lst _, h => by cases u <;> cases h
  | .scr _, h => by cases u <;> cases h
  | .dic _ _, h => by cases u <;> cases h
  | .obj _ _, h => by cases u <;> cases h
  | .mrf _, h => by cases u <;> cases h
  | .clo _ _, h => by cases u <;> cases h
theorem cstA_ok {S : Sta} : ∀ {ds : List D} {us : List Value}, cstA S.K ds us = true → ∃ vs, Vals vs us ∧ ∀ H0 mm, Dps S H0 mm vs ds
  | [], [], _ => ⟨[], .nil, fun _ _ => rfl⟩
  | [], _ :: _, h => by cases h
  | _ :: _, [], h => by cases h
  | d :: ds, u :: us, h => by
    obtain ⟨h1, h2⟩ := ba (show (cstB S.K d u && cstA S.K ds us) = true from h)
    obtain ⟨v, r, q⟩ := cstB_ok h1
    obtain ⟨vs, rs, qs⟩ := cstA_ok h2
    exact ⟨v :: vs, .cons r rs, fun H0 mm => ⟨v, vs, rfl, q H0 mm, qs H0 mm⟩⟩
end
/-- the module's name x stands for d -/
def cB (K : PySem.W.Frag) (x : Str) (d : D) : Bool := match PySem.W.nsIn K mainGlobals x with
  | some (some u) => cstB K d u
  | _ => false
theorem cB_ok {S : Sta} {h : Heap} {mg : Str → Option Value} (X : S.K.In h) (G : h.Ns mainGlobals mg) {x : Str} {d : D} (c : cB S.K x d = true) : Cst S mg x d := by
  unfold cB at c
  split at c
  · rename_i u e
    obtain ⟨v, r, q⟩ := cstB_ok c
    exact ⟨v, u, PySem.W.mg_of X G e, r, q⟩
  · cases c
/-- .. for a tuple of texts -/
def ctB (K : PySem.W.Frag) (x : Str) (ts : List Str) : Bool := eqO (PySem.W.nsIn K mainGlobals x) (some (some (.ref (ga K x)))) && (match K.lookup (ga K x) with
  | some ⟨.type c, none, .seq its _, _⟩ => decide (c = "tuple") && (decide (its.size ≤ sizeLine) && relAll (ts.map V.str) its.toList)
  | _ => false)
theorem ctB_ok {S : Sta} {h : Heap} {mg : Str → Option Value} (X : S.K.In h) (G : h.Ns mainGlobals mg) {x : Str} {ts : List Str} (c : ctB S.K x ts = true) : CstT S mg x ts := by
  obtain ⟨c1, c2⟩ := ba c
  split at c2
  · rename_i c0 its n sl e
    obtain ⟨h1, c2⟩ := ba c2
    obtain ⟨h2, h3⟩ := ba c2
    have r := relAll_ok h3
    exact ⟨_, _, PySem.W.mg_of X G (eqO_ok c1), e, congrArg Value.type (of_decide_eq_true h1), rfl, fun H => .inr ⟨_, its, n, e, congrArg Value.type (of_decide_eq_true h1), rfl, of_decide_eq_true h2, r⟩⟩
  · cases c2
/-- a dict's values by key -/
def kdB (K : PySem.W.Frag) (x : Str) (ks : List (Str × D)) : Bool := eqO (PySem.W.nsIn K mainGlobals x) (some (some (.ref (ga K x)))) && ks.all fun q => match PySem.W.nsIn K (ga K x) q.1 with
  | some (some u) => cstB K q.2 u
  | _ => false
theorem lookup_mem' {z : Str} {d : D} : ∀ {l : List (Str × D)}, l.lookup z = some d → (z, d) ∈ l
  | [], h => by cases h
  | (b, u) :: r, h => by
    rw [List.lookup_cons] at h
    cases q : (z == b) with
    | true =>
      rw [q] at h
      cases h
      rw [beq_iff_eq.mp q]
      exact List.mem_cons_self
    | false =>
      rw [q] at h
      exact List.mem_cons_of_mem _ (lookup_mem' h)
theorem kdB_ok {S : Sta} {w : World} {h : Heap} {mg : Str → Option Value} (X : S.K.In h) (G : h.Ns mainGlobals mg) {x : Str} {ks : List (Str × D)} (c : kdB S.K x ks = true) (t : ∃ es n, KDict S.K w (ga S.K x) es n) : KDc S w mg x ks := by
  obtain ⟨c1, c2⟩ := ba c
  obtain ⟨es, n, t⟩ := t
  refine ⟨_, es, n, PySem.W.mg_of X G (eqO_ok c1), t, fun z dd e => ?_⟩
  have q := List.all_eq_true.mp c2 _ (lookup_mem' e)
  replace q : (match PySem.W.nsIn S.K (ga S.K x) z with
    | some (some u) => cstB S.K dd u
    | _ => false) = true := q
  split at q
  · rename_i u e1
    obtain ⟨v, r, dv⟩ := cstB_ok q
    exact ⟨u, v, e1, r, dv⟩
  · cases q

/-! ### isinstance -/
def cliB (K : PySem.W.Frag) (C : Str) : Bool := (Fa.cls C).ok K && (eqO (PySem.W.findIn K (.ref (ga K C)) "__class__") (some (some (.builtin "object.__class__"))) && (eqO (PySem.W.specialIn K (.builtin "object.__class__") "__get__") (some (some (.builtin "getset_descriptor.__get__"))) &&
  (decide (PySem.W.takesIn K (.builtin "object.__class__") = some true) && decide (PySem.W.mroIn K (ga K C) (.type "object") = some true))))
def isfB (K : PySem.W.Frag) (L : List Str) : Bool := L.all (cliB K) && ((L.all fun C => bTys.all fun T => decide (PySem.W.kitOne K (.ref (ga K C)) (.type T) = some false)) &&
  ((L.all fun C => L.all fun C' => decide (PySem.W.kitOne K (.ref (ga K C)) (.ref (ga K C')) = some (decide (C = C')))) && vTys.all fun T => L.all fun C => decide (PySem.W.kitOne K (.type T) (.ref (ga K C)) = some false)))
theorem isfB_ok {K : PySem.W.Frag} {L : List Str} (h : isfB K L = true) : IsF K L := by
  obtain ⟨h1, h⟩ := ba h
  obtain ⟨h2, h⟩ := ba h
  obtain ⟨h3, h4⟩ := ba h
  refine ⟨fun C hC => ?_, fun C hC T hT => of_decide_eq_true (List.all_eq_true.mp (List.all_eq_true.mp h2 C hC) T hT), fun C hC C' hC' => of_decide_eq_true (List.all_eq_true.mp (List.all_eq_true.mp h3 C hC) C' hC'), fun T hT C hC => of_decide_eq_true (List.all_eq_true.mp (List.all_eq_true.mp h4 T hT) C hC)⟩
  obtain ⟨c1, c⟩ := ba (List.all_eq_true.mp h1 C hC)
  obtain ⟨c2, c⟩ := ba c
  obtain ⟨c3, c⟩ := ba c
  obtain ⟨c4, c5⟩ := ba c
  exact ⟨cls_ok c1, eqO_ok c2, eqO_ok c3, of_decide_eq_true c4, of_decide_eq_true c5⟩

/-! ### the Hook -/
abbrev AlY : Type := AlX × List FnW
structure SaysY (fa : List Fa) (fn : List DefD) (ts : List Tab) (tf : List Defn) (ex : PySem.W.Frag → Bool) (pr : List PrD) (w : World) (h : Heap) (K : PySem.W.Frag) : Prop where
  x : SaysX fa fn ts tf (fun K => ex K && pr.all (PrD.ok K)) w h K
  p : pr.map (fun d => fnWA K (pG K d.C d.f)) = pr.map PrD.val
def obsY (n : Nat) (fa : List Fa) (fn : List DefD) (ts : List Tab) (tf : List Defn) (ex : PySem.W.Frag → Bool) (pr : List PrD) (g : Addr → Option Obj) : AlY :=
  (obsX n fa fn ts tf (fun K => ex K && pr.all (PrD.ok K)) g, pr.map fun d => fnWA (frT g (asD g n)) (pG (frT g (asD g n)) d.C d.f))
def valY (fn : List DefD) (ts : List Tab) (pr : List PrD) (w : World) : AlY := (valX fn ts w, pr.map PrD.val)
def hookY (n : Nat) (fa : List Fa) (fn : List DefD) (ts : List Tab) (tf : List Defn) (ex : PySem.W.Frag → Bool) (pr : List PrD) : PySem.W.Hook where
  α := AlY
  obs := fun s => obsY n fa fn ts tf ex pr s.heap.get?
  val := fun w => valY fn ts pr w
  says := fun w h => ∃ K : PySem.W.Frag, K.In h ∧ SaysY fa fn ts tf ex pr w h K
  of := fun _ _ e => ⟨_, frT_in, saysX_of (congrArg (fun z : AlY => z.1) e), congrArg (fun z : AlY => z.2) e⟩
  keeps := fun _ _ _ ⟨K, hK, c⟩ k => ⟨K, PySem.W.Frag.In.keeps hK k, ⟨c.x.t, c.x.more, c.x.hd, c.x.out, fun p hp => k _ _ (c.x.empty p hp)⟩, c.p⟩
theorem obsY_eq {n : Nat} {fa : List Fa} {fn : List DefD} {ts : List Tab} {tf : List Defn} {ex : PySem.W.Frag → Bool} {pr : List PrD} {g : Addr → Option Obj} {s : Shared} (h : ∀ a, g a = s.heap.get? a) : obsY n fa fn ts tf ex pr g = (hookY n fa fn ts tf ex pr).obs s := by
  have e : g = s.heap.get? := funext h
  rw [e] <;> rfl
section
variable {fa : List Fa} {fn : List DefD} {ts : List Tab} {tf : List Defn} {ex : PySem.W.Frag → Bool} {pr : List PrD} {w : World} {h : Heap} {K : PySem.W.Frag}
theorem SaysY.d (c : SaysY fa fn ts tf ex pr w h K) : SaysD fa fn K := c.x.t.d
theorem SaysY.more (c : SaysY fa fn ts tf ex pr w h K) : ex K = true := (ba (show (ex K && pr.all (PrD.ok K)) = true from c.x.more)).1
theorem SaysY.prop (c : SaysY fa fn ts tf ex pr w h K) {d : PrD} (hd : d ∈ pr) : ∃ p g fd, PropOf K (ga K d.C) d.f p g ∧ FunD K d.f d.qual d.params d.body d.scope [] [] g fd := by
  have c1 := List.all_eq_true.mp (ba (show (ex K && pr.all (PrD.ok K)) = true from c.x.more)).2 d hd
  refine PrD.get c1 ?_
  obtain ⟨i, hi, e⟩ := List.mem_iff_getElem.mp hd
  have e2 : (pr.map fun d => fnWA K (pG K d.C d.f))[i]? = (pr.map PrD.val)[i]? := by rw [c.p]
  rw [List.getElem?_map, List.getElem?_map, List.getElem?_eq_getElem hi, e] at e2
  exact Option.some.inj e2
end
/-- the tables of the defs that make lambdas: each for one name -/
def tabT (K : PySem.W.Frag) (tq : List (Defn × Str)) : Tbl := tq.map fun p => ((cT K p.1).2, p.2)
def tabU (K : PySem.W.Frag) (tq : List (Defn × Str)) : Bool := decide ((tabT K tq).map (·.1)).Nodup
theorem nodup_one {α β : Type} {l : List (α × β)} (h : (l.map (·.1)).Nodup) : ∀ {p q : α × β}, p ∈ l → q ∈ l → p.1 = q.1 → p = q := by
  induction l with
  | nil => intro p q hp; simp at hp
  | cons x l ih =>
    intro p q hp hq e
    rw [List.map_cons, List.nodup_cons] at h
    rcases List.mem_cons.mp hp with hp1 | hp1
    · rcases List.mem_cons.mp hq with hq1 | hq1
      · rw [hp1, hq1]
      · exact absurd (List.mem_map.mpr ⟨q, hq1, by rw [← e, hp1]⟩) h.1
    · rcases List.mem_cons.mp hq with hq1 | hq1
      · exact absurd (List.mem_map.mpr ⟨p, hp1, by rw [e, hq1]⟩) h.1
      · exact ih h.2 hp1 hq1 e
theorem tab_in {K : PySem.W.Frag} {tq : List (Defn × Str)} (u : tabU K tq = true) {d : Defn} {q : Str} (h : (d, q) ∈ tq) : ((cT K d).2, q) ∈ tabT K tq ∧ ∀ p ∈ tabT K tq, p.1 = (cT K d).2 → p.2 = q := by
  have m : ((cT K d).2, q) ∈ tabT K tq := List.mem_map.mpr ⟨(d, q), h, rfl⟩
  refine ⟨m, fun p hp e => ?_⟩
  rw [nodup_one (of_decide_eq_true u) hp m e]

/-! ### sealed: by name alone -/
noncomputable def sld {α : Type} (x : α) : α := Classical.choose (⟨x, rfl⟩ : ∃ y, y = x)
theorem sld_eq {α : Type} (x : α) : sld x = x := Classical.choose_spec (⟨x, rfl⟩ : ∃ y, y = x)
/-! ### the start -/
/-- what does not change from the law's start on: all but the tables -/
def startH (H : Hp) : Hp := fun b => match H b with
  | some (.tbl _) => none
  | o => o
theorem startH_some {H : Hp} {a : Addr} {o : HO} (h : H a = some o) (n : ∀ ps, o ≠ .tbl ps) : startH H a = some o := by
  unfold startH
  rw [h]
  cases o with
  | tbl ps => exact absurd rfl (n ps)
  | _ => rfl
theorem startH_sub {H : Hp} : Sub (startH H) H := fun a o h => by
  unfold startH at h
  split at h
  · cases h
  · exact h
theorem startH_nt {H : Hp} : ∀ b ps, startH H b ≠ some (.tbl ps) := fun b ps h => by
  unfold startH at h
  split at h
  · cases h
  · rename_i n
    exact n _ h
theorem ints_dps {S : Sta} {H0 : Hp} {mm : List Addr} : ∀ ns : List Int, Dps S H0 mm (ns.map V.int) (ns.map D.int)
  | [] => rfl
  | n :: ns => ⟨_, _, rfl, rfl, ints_dps ns⟩
theorem sqL_start {K : PySem.W.Frag} {H : Hp} {a : Addr} {xs : List V} (h : SqL K H a xs) : SqL K (startH H) a xs := by
  rcases h with (h | ⟨o, h⟩) | h
  · exact .inl (.inl (startH_some h fun _ z => by cases z))
  · exact .inl (.inr ⟨o, startH_some h fun _ z => by cases z⟩)
  · exact .inr h
/-- THE END: the law's mirror gives True at every script -/
theorem law_start {S : Sta} {m : DF} {H : Hp} {a : Addr} {ns : List Int} (hT : ∀ p ∈ S.T, H p.1 = some (.tbl #[])) (h : SqL S.K H a (ns.map V.int)) {μ' : Mu} (hm : m [.scr (ns.map .int)] [] = .ok (.bl true) μ') :
    spF S 1 m [.ref a] H (fun v _ => v = .bl true) fun _ _ _ => False := by
  refine ⟨startH H, [], [.scr (ns.map .int)], [], ⟨startH_sub, ⟨rfl, List.nodup_nil, fun k a m e => by simp at e, fun a h => by simp at h⟩, fun p hp => ⟨#[], hT p hp, by simp [TriplesOk], fun pos cv hc => ?_⟩, startH_nt⟩, ⟨_, _, rfl, ⟨a, _, rfl, sqL_start h, ints_dps ns⟩, rfl⟩, rfl, ?_⟩
  · simp [codeAmong] at hc
  · rw [hm]
    exact fun v H0' H' mm' g n d => d
end DL
set_option maxRecDepth 100000
set_option maxHeartbeats 2000000
/-! Reckoning with mirrors. -/
namespace DL
open PySem PySem.Spec L2 NdefX

/-! ### comprehensions -/
/-- one turn -/
def turnV : Vl → EF (Option D)
  | .val d => ret (some d)
  | _ => stuck
def turnE (tg : TF) (cnd : EF Bool) (elt : EF Vl) (d : D) : EF (Option D) := bnd (tg d) fun _ => bnd cnd fun b => match b with
  | true => bnd (gFrz elt) turnV
  | false => ret none
theorem comp_turn {vs : List Nat} {tg : TF} {cnd : EF Bool} {elt : EF Vl} {d : D} {ds acc : List D} {ρ ρ' : Env} {μ μ' : Mu} {o : Option D} (h : turnE tg cnd elt d ρ μ = .ok o ρ' μ') (hl : acc.length < sizeLine) :
    compD vs tg cnd elt (d :: ds) acc ρ μ = compD vs tg cnd elt ds (addD acc o) (wipeR ρ' vs) μ' := by
  unfold turnE bnd at h
  generalize hr : compD vs tg cnd elt ds (addD acc o) (wipeR ρ' vs) μ' = r
  show bnd (tg d) (fun _ => bnd cnd (compE elt fun o => if acc.length < sizeLine then wipeE vs (compD vs tg cnd elt ds (addD acc o)) else stuck)) ρ μ = r
  unfold bnd
  cases q : tg d ρ μ with
  | ok a ρ1 μ1 =>
    rw [q] at h
    dsimp only at h ⊢
    cases q2 : cnd ρ1 μ1 with
    | ok b ρ2 μ2 =>
      rw [q2] at h
      cases b with
      | true =>
        dsimp only at h ⊢
        unfold compE bnd
        dsimp only
        cases q3 : gFrz elt ρ2 μ2 with
        | ok v ρ3 μ3 =>
          rw [q3] at h
          cases v with
          | val x =>
            cases h
            show (if acc.length < sizeLine then wipeE vs (compD vs tg cnd elt ds (addD acc (some x))) else stuck) _ _ = _
            rw [if_pos hl]
            exact hr
          | _ => cases h
        | _ => rw [q3] at h; cases h
      | false =>
        cases h
        show (if acc.length < sizeLine then wipeE vs (compD vs tg cnd elt ds (addD acc none)) else stuck) _ _ = _
        rw [if_pos hl]
        exact hr
    | _ => rw [q2] at h; cases h
  | _ => rw [q] at h; cases h
theorem addD_len (acc : List D) (o : Option D) : (addD acc o).length ≤ acc.length + 1 := by
  cases o <;> simp [addD]
theorem compD_run {vs : List Nat} {tg : TF} {cnd : EF Bool} {elt : EF Vl} {ρw : Env} (I : Nat → List D → Mu → Prop) : ∀ (ds : List D) (k : Nat) (acc : List D) (μ : Mu), acc.length + ds.length ≤ sizeLine → I k acc μ →
    (∀ i d acc μ, ds[i]? = some d → I (k + i) acc μ → ∃ o ρ2 μ2, turnE tg cnd elt d ρw μ = .ok o ρ2 μ2 ∧ wipeR ρ2 vs = ρw ∧ I (k + i + 1) (addD acc o) μ2) →
    ∃ out μ', compD vs tg cnd elt ds acc ρw μ = .ok out ρw μ' ∧ I (k + ds.length) out μ'
  | [], k, acc, μ, _, h, _ => ⟨acc, μ, rfl, h⟩
  | d :: ds, k, acc, μ, hl, h, st => by
    obtain ⟨o, ρ2, μ2, e1, e2, e3⟩ := st 0 d acc μ rfl h
    rw [List.length_cons] at hl
    have l2 := addD_len acc o
    obtain ⟨out, μ', f1, f2⟩ := compD_run I ds (k + 1) (addD acc o) μ2 (by omega) e3 (fun i d acc μ e hi => by
      obtain ⟨o, ρ2, μ2, g1, g2, g3⟩ := st (i + 1) d acc μ (by simpa using e) (by rw [show k + (i + 1) = k + 1 + i by omega]; exact hi)
      exact ⟨o, ρ2, μ2, g1, g2, by rw [show k + 1 + i + 1 = k + (i + 1) + 1 by omega]; exact g3⟩)
    refine ⟨out, μ', ?_, by rw [List.length_cons, show k + (ds.length + 1) = k + 1 + ds.length by omega]; exact f2⟩
    rw [comp_turn e1 (by omega), e2]
    exact f1
theorem backR_wipe {ρ : Env} : ∀ {vs : List Nat} {i : Nat}, (backR ρ (wipeR ρ vs) vs)[i]? = ρ[i]? := by
  have key : ∀ (us vs : List Nat) (i : Nat), (∀ v ∈ vs, v ∈ us ∨ True) → (backR ρ (wipeR ρ us) vs)[i]? = if i ∈ vs then ρ[i]? else (wipeR ρ us)[i]? := fun us vs => by
    have len : ∀ vs : List Nat, (backR ρ (wipeR ρ us) vs).length = ρ.length := fun vs => by
      induction vs with
      | nil => exact wipeR_length ρ us
      | cons v vs ih => unfold backR; rw [List.length_set, ih]
    induction vs with
    | nil => intro i _; simp [backR]
    | cons v vs ih =>
      intro i _
      unfold backR
      rw [List.getElem?_set]
      by_cases hv : v = i
      · subst hv
        rw [if_pos rfl, len]
        by_cases hl : v < ρ.length
        · rw [if_pos hl, List.getElem?_eq_getElem hl]
          simp
        · rw [if_neg hl, List.getElem?_eq_none (by omega)]
          simp
      · rw [if_neg hv, ih i (fun _ _ => .inr trivial)]
        simp [List.mem_cons, Ne.symm hv]
  intro vs i
  rw [key vs vs i (fun v h => .inl h)]
  split
  · rfl
  · rename_i h
    exact wipeR_at h
theorem backR_self {ρ : Env} {vs : List Nat} : backR ρ (wipeR ρ vs) vs = ρ := List.ext_getElem? fun i => backR_wipe
theorem gLc_run {vs : List Nat} {it : EF (List D)} {tg : TF} {cnd : EF Bool} {elt : EF Vl} {ρ0 ρ : Env} {μ0 μ : Mu} {ds : List D} (I : Nat → List D → Mu → Prop) (hit : it ρ0 μ0 = .ok ds ρ μ) (no : noOw ρ vs = true) (hl : ds.length ≤ sizeLine) (h0 : I 0 [] μ)
    (st : ∀ i d acc μ, ds[i]? = some d → I i acc μ → ∃ o ρ2 μ2, turnE tg cnd elt d (wipeR ρ vs) μ = .ok o ρ2 μ2 ∧ wipeR ρ2 vs = wipeR ρ vs ∧ I (i + 1) (addD acc o) μ2) :
    ∃ out μ', gLc vs it tg cnd elt ρ0 μ0 = .ok (.frs (.lst out)) ρ μ' ∧ I ds.length out μ' := by
  obtain ⟨out, μ', e, h⟩ := compD_run (vs := vs) (tg := tg) (cnd := cnd) (elt := elt) (ρw := wipeR ρ vs) I ds 0 [] μ (by simpa using hl) h0 (fun i d acc μ e hi => by
    rw [Nat.zero_add] at hi ⊢
    exact st i d acc μ e hi)
  refine ⟨out, μ', ?_, by rw [Nat.zero_add] at h; exact h⟩
  unfold gLc bnd
  rw [hit]
  show blkE vs (compD vs tg cnd elt ds []) ρ μ = _
  unfold blkE
  rw [no]
  dsimp only
  rw [e]
  dsimp only
  rw [backR_self]
/-- .. where no object changes -/
theorem gLc_fm {vs : List Nat} {it : EF (List D)} {tg : TF} {cnd : EF Bool} {elt : EF Vl} {ρ0 ρ : Env} {μ0 μ : Mu} {ds : List D} (f : D → Option D) (hit : it ρ0 μ0 = .ok ds ρ μ) (no : noOw ρ vs = true) (hl : ds.length ≤ sizeLine)
    (st : ∀ d ∈ ds, ∃ ρ2, turnE tg cnd elt d (wipeR ρ vs) μ = .ok (f d) ρ2 μ ∧ wipeR ρ2 vs = wipeR ρ vs) :
    gLc vs it tg cnd elt ρ0 μ0 = .ok (.frs (.lst (ds.filterMap f))) ρ μ := by
  obtain ⟨out, μ', e, h1, h2⟩ := gLc_run (vs := vs) (tg := tg) (cnd := cnd) (elt := elt) (fun i acc μ' => μ' = μ ∧ acc = (ds.take i).filterMap f) hit no hl ⟨rfl, rfl⟩ (fun i d acc μ' e hi => by
    obtain ⟨rfl, rfl⟩ := hi
    obtain ⟨ρ2, e1, e2⟩ := st d (List.mem_of_getElem? e)
    refine ⟨f d, ρ2, μ', e1, e2, rfl, ?_⟩
    rw [List.take_add_one, e, List.filterMap_append]
    cases hf : f d <;> simp [addD, hf])
  rw [e, h1, h2, List.take_length]
theorem gLc_map {vs : List Nat} {it : EF (List D)} {tg : TF} {cnd : EF Bool} {elt : EF Vl} {ρ0 ρ : Env} {μ0 μ : Mu} {ds : List D} (f : D → D) (hit : it ρ0 μ0 = .ok ds ρ μ) (no : noOw ρ vs = true) (hl : ds.length ≤ sizeLine)
    (st : ∀ d ∈ ds, ∃ ρ2, turnE tg cnd elt d (wipeR ρ vs) μ = .ok (some (f d)) ρ2 μ ∧ wipeR ρ2 vs = wipeR ρ vs) :
    gLc vs it tg cnd elt ρ0 μ0 = .ok (.frs (.lst (ds.map f))) ρ μ := by
  rw [gLc_fm (fun d => some (f d)) hit no hl st]
  simp

/-! ### loops -/
theorem forD_run {tg : TF} {body : SF} (I : Nat → Env → Mu → Prop) : ∀ (ds : List D) (k : Nat) (ρ : Env) (μ : Mu), I k ρ μ →
    (∀ i d ρ μ, ds[i]? = some d → I (k + i) ρ μ → ∃ ρ1 μ1 ρ2 μ2, tg d ρ μ = .ok () ρ1 μ1 ∧ (body ρ1 μ1 = .nx ρ2 μ2 ∨ body ρ1 μ1 = .ct ρ2 μ2) ∧ I (k + i + 1) ρ2 μ2) →
    ∃ ρ' μ', forD tg body ds ρ μ = .nx ρ' μ' ∧ I (k + ds.length) ρ' μ'
  | [], k, ρ, μ, h, _ => ⟨ρ, μ, rfl, h⟩
  | d :: ds, k, ρ, μ, h, st => by
    obtain ⟨ρ1, μ1, ρ2, μ2, e1, e2, e3⟩ := st 0 d ρ μ rfl h
    obtain ⟨ρ', μ', f1, f2⟩ := forD_run I ds (k + 1) ρ2 μ2 e3 (fun i d ρ μ e hi => by
      obtain ⟨ρ1, μ1, ρ2, μ2, g1, g2, g3⟩ := st (i + 1) d ρ μ (by simpa using e) (by rw [show k + (i + 1) = k + 1 + i by omega]; exact hi)
      exact ⟨ρ1, μ1, ρ2, μ2, g1, g2, by rw [show k + 1 + i + 1 = k + (i + 1) + 1 by omega]; exact g3⟩)
    refine ⟨ρ', μ', ?_, by rw [List.length_cons, show k + (ds.length + 1) = k + 1 + ds.length by omega]; exact f2⟩
    show okG (fun ρ μ => forK (forD tg body ds) (body ρ μ)) (tg d ρ μ) = _
    rw [e1]
    show forK (forD tg body ds) (body ρ1 μ1) = _
    rcases e2 with e2 | e2
    · rw [e2]; exact f1
    · rw [e2]; exact f1
theorem sFor_run {it : EF (List D)} {tg : TF} {body : SF} {ρ0 ρ : Env} {μ0 μ : Mu} {ds : List D} (I : Nat → Env → Mu → Prop) (hit : it ρ0 μ0 = .ok ds ρ μ) (h0 : I 0 ρ μ)
    (st : ∀ i d ρ μ, ds[i]? = some d → I i ρ μ → ∃ ρ1 μ1 ρ2 μ2, tg d ρ μ = .ok () ρ1 μ1 ∧ (body ρ1 μ1 = .nx ρ2 μ2 ∨ body ρ1 μ1 = .ct ρ2 μ2) ∧ I (i + 1) ρ2 μ2) :
    ∃ ρ' μ', sFor it tg body ρ0 μ0 = .nx ρ' μ' ∧ I ds.length ρ' μ' := by
  obtain ⟨ρ', μ', e, h⟩ := forD_run (tg := tg) (body := body) I ds 0 ρ μ h0 (fun i d ρ μ e hi => by
    rw [Nat.zero_add] at hi ⊢
    exact st i d ρ μ e hi)
  rw [Nat.zero_add] at h
  refine ⟨ρ', μ', ?_, h⟩
  unfold sFor sBnd
  rw [hit]
  exact e
end DL
set_option maxRecDepth 100000
set_option maxHeartbeats 2000000
/-! Mirrors run by simp. -/
namespace DL
open PySem
section
variable {α β : Type} {ρ : Env} {μ : Mu}
@[simp] theorem ev_bnd (g : EF α) (f : α → EF β) : bnd g f ρ μ = (match g ρ μ with
  | .ok a ρ' μ' => f a ρ' μ'
  | .exc x ρ' μ' => .exc x ρ' μ'
  | .no => .no) := rfl
@[simp] theorem ev_ret (a : α) : ret a ρ μ = .ok a ρ μ := rfl
@[simp] theorem ev_stuck : (stuck : EF α) ρ μ = .no := rfl
@[simp] theorem ev_name (i : Nat) : gName i ρ μ = (match ρ[i]? with
  | some (.fz d) => .ok (.val d) ρ μ
  | some (.ow _) => .ok (.slt i) ρ μ
  | _ => .no) := rfl
@[simp] theorem ev_C (d : D) : gC d ρ μ = .ok (.val d) ρ μ := rfl
@[simp] theorem ev_see_mrf (k : Nat) : seeD μ (.mrf k) = seeM k μ[k]? := rfl
@[simp] theorem ev_see_non : seeD μ .non = .non := rfl
@[simp] theorem ev_see_bl (b : Bool) : seeD μ (.bl b) = .bl b := rfl
@[simp] theorem ev_see_int (b : Int) : seeD μ (.int b) = .int b := rfl
@[simp] theorem ev_see_str (b : Str) : seeD μ (.str b) = .str b := rfl
@[simp] theorem ev_see_tup (b : List D) : seeD μ (.tup b) = .tup b := rfl
@[simp] theorem ev_see_lst (b : List D) : seeD μ (.lst b) = .lst b := rfl
@[simp] theorem ev_see_scr (b : List D) : seeD μ (.scr b) = .scr b := rfl
@[simp] theorem ev_see_dic (b c : List D) : seeD μ (.dic b c) = .dic b c := rfl
@[simp] theorem ev_see_obj (b : Str) (c : List (Str × D)) : seeD μ (.obj b c) = .obj b c := rfl
@[simp] theorem ev_see_glo (b : Str) : seeD μ (.glo b) = .glo b := rfl
@[simp] theorem ev_see_clo (b : Nat) (c : List D) : seeD μ (.clo b c) = .clo b c := rfl
@[simp] theorem ev_see_ty (b : String) : seeD μ (.ty b) = .ty b := rfl
@[simp] theorem ev_seeM_lst (k : Nat) (ds : List D) : seeM k (some (.lst ds)) = .lst ds := rfl
@[simp] theorem ev_seeM_ins (k : Nat) (C : Str) (fs : List (Str × D)) : seeM k (some (.ins C fs)) = .obj C fs := rfl
@[simp] theorem ev_con_val (d : D) : con μ ρ (.val d) = some (seeD μ d) := rfl
@[simp] theorem ev_con_frs (d : D) : con μ ρ (.frs d) = some d := rfl
@[simp] theorem ev_con_slt (i : Nat) : con μ ρ (.slt i) = (match ρ[i]? with
    | some (.ow d) => some d
    | some (.fz d) => some (seeD μ d)
    | _ => none) := rfl
@[simp] theorem ev_g2 (h2 : D → D → EF Vl) (ga gb : EF Vl) : g2 h2 ga gb ρ μ = (match ga ρ μ with
  | .ok x ρ' μ' => (match gb ρ' μ' with
    | .ok y ρ2 μ2 => (match con μ2 ρ2 x with
      | some a => (match con μ2 ρ2 y with
        | some b => h2 a b ρ2 μ2
        | none => .no)
      | none => .no)
    | .exc x ρ' μ' => .exc x ρ' μ'
    | .no => .no)
  | .exc x ρ' μ' => .exc x ρ' μ'
  | .no => .no) := by
  simp only [g2, bnd, sBnd]
  cases ga ρ μ with
  | ok x1 ρ1 μ1 =>
    dsimp only
    cases gb ρ1 μ1 <;> rfl
  | _ => rfl
@[simp] theorem ev_g1 (h1 : D → EF Vl) (ga : EF Vl) : g1 h1 ga ρ μ = (match ga ρ μ with
  | .ok x ρ' μ' => (match con μ' ρ' x with
      | some a => h1 a ρ' μ'
      | none => .no)
  | .exc x ρ' μ' => .exc x ρ' μ'
  | .no => .no) := by
  simp only [g1, bnd, sBnd]
  cases ga ρ μ <;> rfl
@[simp] theorem ev_frzV_val (d : D) : frzV (.val d) ρ μ = .ok (.val d) ρ μ := rfl
@[simp] theorem ev_frzV_frs (d : D) : frzV (.frs d) ρ μ = .ok (.val d) ρ μ := rfl
@[simp] theorem ev_frzV_slt (i : Nat) : frzV (.slt i) ρ μ = frzA i ρ μ ρ[i]? := rfl
@[simp] theorem ev_frzA_ow (i : Nat) (d : D) : frzA i ρ μ (some (.ow d)) = .ok (.val d) (ρ.set i (.fz d)) μ := rfl
@[simp] theorem ev_frzA_fz (i : Nat) (d : D) : frzA i ρ μ (some (.fz d)) = .ok (.val d) ρ μ := rfl
@[simp] theorem ev_frz (g : EF Vl) : gFrz g ρ μ = (match g ρ μ with
  | .ok a ρ' μ' => frzV a ρ' μ'
  | .exc x ρ' μ' => .exc x ρ' μ'
  | .no => .no) := by
  simp only [gFrz, bnd, sBnd]
  cases g ρ μ <;> rfl
@[simp] theorem ev_asB (b : Bool) : asB (some (.bl b)) ρ μ = .ok b ρ μ := rfl
@[simp] theorem ev_B (g : EF Vl) : gB g ρ μ = (match g ρ μ with
  | .ok x ρ' μ' => asB (con μ' ρ' x) ρ' μ'
  | .exc x ρ' μ' => .exc x ρ' μ'
  | .no => .no) := by
  simp only [gB, bnd, sBnd]
  cases g ρ μ <;> rfl
@[simp] theorem ev_and (a b : EF Bool) : gAnd a b ρ μ = (match a ρ μ with
  | .ok c ρ' μ' => if c = true then b ρ' μ' else .ok false ρ' μ'
  | .exc x ρ' μ' => .exc x ρ' μ'
  | .no => .no) := by
  unfold gAnd bnd
  cases a ρ μ with
  | ok c ρ' μ' => cases c <;> rfl
  | _ => rfl
@[simp] theorem ev_or (a b : EF Bool) : gOr a b ρ μ = (match a ρ μ with
  | .ok c ρ' μ' => if c = true then .ok true ρ' μ' else b ρ' μ'
  | .exc x ρ' μ' => .exc x ρ' μ'
  | .no => .no) := by
  unfold gOr bnd
  cases a ρ μ with
  | ok c ρ' μ' => cases c <;> rfl
  | _ => rfl
@[simp] theorem ev_not (a : EF Bool) : gNot a ρ μ = (match a ρ μ with
  | .ok c ρ' μ' => .ok (!c) ρ' μ'
  | .exc x ρ' μ' => .exc x ρ' μ'
  | .no => .no) := by
  simp only [gNot, bnd, sBnd]
  cases a ρ μ <;> rfl
@[simp] theorem ev_BV (a : EF Bool) : gBV a ρ μ = (match a ρ μ with
  | .ok c ρ' μ' => .ok (.val (.bl c)) ρ' μ'
  | .exc x ρ' μ' => .exc x ρ' μ'
  | .no => .no) := by
  simp only [gBV, bnd, sBnd]
  cases a ρ μ <;> rfl
@[simp] theorem ev_If (t : EF Bool) (a b : EF α) : gIf t a b ρ μ = (match t ρ μ with
  | .ok c ρ' μ' => if c = true then a ρ' μ' else b ρ' μ'
  | .exc x ρ' μ' => .exc x ρ' μ'
  | .no => .no) := by
  unfold gIf bnd
  cases t ρ μ with
  | ok c ρ' μ' => cases c <;> rfl
  | _ => rfl
@[simp] theorem ev_aNil : aNil ρ μ = .ok [] ρ μ := rfl
@[simp] theorem ev_aCons (g : EF Vl) (t : EF (List D)) : aCons g t ρ μ = (match gFrz g ρ μ with
  | .ok x ρ' μ' => (match t ρ' μ' with
    | .ok ds ρ2 μ2 => (match x with
      | .val d => .ok (d :: ds) ρ2 μ2
      | _ => .no)
    | .exc x ρ' μ' => .exc x ρ' μ'
    | .no => .no)
  | .exc x ρ' μ' => .exc x ρ' μ'
  | .no => .no) := by
  unfold aCons bnd
  cases gFrz g ρ μ with
  | ok x ρ' μ' =>
    dsimp only
    cases t ρ' μ' with
    | ok ds ρ2 μ2 => cases x <;> rfl
    | _ => rfl
  | _ => rfl
def mkTup (ds : List D) : EF Vl := fun ρ μ => if ds.length ≤ sizeLine then .ok (.val (.tup ds)) ρ μ else .no
def mkLst (ds : List D) : EF Vl := fun ρ μ => if ds.length ≤ sizeLine then .ok (.frs (.lst ds)) ρ μ else .no
@[simp] theorem mkTup_ok {ds : List D} (h : ds.length ≤ sizeLine) : mkTup ds ρ μ = .ok (.val (.tup ds)) ρ μ := if_pos h
@[simp] theorem mkLst_ok {ds : List D} (h : ds.length ≤ sizeLine) : mkLst ds ρ μ = .ok (.frs (.lst ds)) ρ μ := if_pos h
@[simp] theorem ev_tup (t : EF (List D)) : gTup t ρ μ = (match t ρ μ with
  | .ok ds ρ' μ' => mkTup ds ρ' μ'
  | .exc x ρ' μ' => .exc x ρ' μ'
  | .no => .no) := by
  simp only [gTup, bnd]
  cases t ρ μ <;> rfl
@[simp] theorem ev_lst (t : EF (List D)) : gLst t ρ μ = (match t ρ μ with
  | .ok ds ρ' μ' => mkLst ds ρ' μ'
  | .exc x ρ' μ' => .exc x ρ' μ'
  | .no => .no) := by
  simp only [gLst, bnd]
  cases t ρ μ <;> rfl
/-! statements -/
@[simp] theorem ev_sNil : sNil ρ μ = .nx ρ μ := rfl
@[simp] theorem ev_sNever : sNever ρ μ = .no := rfl
@[simp] theorem ev_seq (f g : SF) : sSeq f g ρ μ = (match f ρ μ with
  | .nx ρ' μ' => g ρ' μ'
  | .rt d ρ' μ' => .rt d ρ' μ'
  | .bk ρ' μ' => .bk ρ' μ'
  | .ct ρ' μ' => .ct ρ' μ'
  | .exc x ρ' μ' => .exc x ρ' μ'
  | .no => .no) := by
  unfold sSeq
  cases f ρ μ <;> rfl
@[simp] theorem ev_sBnd (g : EF α) (f : α → SF) : sBnd g f ρ μ = (match g ρ μ with
  | .ok a ρ' μ' => f a ρ' μ'
  | .exc x ρ' μ' => .exc x ρ' μ'
  | .no => .no) := rfl
@[simp] theorem ev_sExp (g : EF Vl) : sExp g ρ μ = (match g ρ μ with
  | .ok a ρ' μ' => .nx ρ' μ'
  | .exc x ρ' μ' => .exc x ρ' μ'
  | .no => .no) := by
  simp only [sExp, bnd, sBnd]
  cases g ρ μ <;> rfl
@[simp] theorem ev_sRetV (d : D) : sRetV (.val d) ρ μ = .rt d ρ μ := rfl
@[simp] theorem ev_sRet (g : EF Vl) : sRet g ρ μ = (match gFrz g ρ μ with
  | .ok a ρ' μ' => sRetV a ρ' μ'
  | .exc x ρ' μ' => .exc x ρ' μ'
  | .no => .no) := by
  simp only [sRet, bnd, sBnd]
  cases gFrz g ρ μ <;> rfl
@[simp] theorem ev_sRetN : sRetN ρ μ = .rt .non ρ μ := rfl
@[simp] theorem ev_sIf (t : EF Bool) (f g : SF) : sIf t f g ρ μ = (match t ρ μ with
  | .ok c ρ' μ' => if c = true then f ρ' μ' else g ρ' μ'
  | .exc x ρ' μ' => .exc x ρ' μ'
  | .no => .no) := by
  unfold sIf sBnd
  cases t ρ μ with
  | ok c ρ' μ' => cases c <;> rfl
  | _ => rfl
@[simp] theorem ev_putV_val (i : Nat) (d : D) : putV i (.val d) ρ μ = .nx (ρ.set i (.fz d)) μ := rfl
@[simp] theorem ev_putV_frs (i : Nat) (d : D) : putV i (.frs d) ρ μ = .nx (ρ.set i (.ow d)) μ := rfl
@[simp] theorem ev_sSet (i : Nat) (g : EF Vl) : sSet i g ρ μ = (match g ρ μ with
  | .ok a ρ' μ' => putV i a ρ' μ'
  | .exc x ρ' μ' => .exc x ρ' μ'
  | .no => .no) := by
  simp only [sSet, bnd, sBnd]
  cases g ρ μ <;> rfl
@[simp] theorem ev_sAsgV (f : TF) (d : D) : sAsgV f (.val d) ρ μ = okS (f d ρ μ) := rfl
@[simp] theorem ev_okS (u : Unit) : okS (.ok u ρ μ) = .nx ρ μ := rfl
@[simp] theorem ev_sAsg (f : TF) (g : EF Vl) : sAsg f g ρ μ = (match gFrz g ρ μ with
  | .ok a ρ' μ' => sAsgV f a ρ' μ'
  | .exc x ρ' μ' => .exc x ρ' μ'
  | .no => .no) := by
  simp only [sAsg, bnd, sBnd]
  cases gFrz g ρ μ <;> rfl
@[simp] theorem ev_toName (i : Nat) (d : D) : toName i d ρ μ = .ok () (ρ.set i (.fz d)) μ := rfl
@[simp] theorem ev_toNil : toNil [] ρ μ = .ok () ρ μ := rfl
@[simp] theorem ev_toCons (f : TF) (g : List D → EF Unit) (d : D) (ds : List D) : toCons f g (d :: ds) ρ μ = (match f d ρ μ with
  | .ok _ ρ' μ' => g ds ρ' μ'
  | .exc x ρ' μ' => .exc x ρ' μ'
  | .no => .no) := by
  simp only [toCons, bnd, sBnd]
  cases f d ρ μ <;> rfl
@[simp] theorem ev_toTup {n : Nat} (g : List D → EF Unit) {ds : List D} (h : ds.length = n) : toTup n g (.tup ds) ρ μ = g ds ρ μ := if_pos h
@[simp] theorem ev_endF_nx : endF (.nx ρ μ) = .ok .non μ := rfl
@[simp] theorem ev_endF_rt (d : D) : endF (.rt d ρ μ) = .ok d μ := rfl
@[simp] theorem ev_endF_exc (x : Exn) : endF (.exc x ρ μ) = .exc x μ := rfl
@[simp] theorem ev_body (n : Nat) (f : SF) (ds : List D) : bodyF n f ds μ = endF (f (startE n ds) μ) := rfl
@[simp] theorem ev_start (n : Nat) (ds : List D) : startE n ds = ds.map .fz ++ List.replicate (n - ds.length) .un := rfl
@[simp] theorem ev_lift_ok (d : D) (μ' : Mu) : liftF ρ (.ok d μ') = .ok (.val d) ρ μ' := rfl
@[simp] theorem ev_lift_exc (x : Exn) (μ' : Mu) : liftF ρ (.exc x μ') = .exc x ρ μ' := rfl
@[simp] theorem ev_callV {n : Nat} (m : DF) {ds : List D} (h : ds.length = n) : callV n m ds ρ μ = liftF ρ (m ds μ) := if_pos h
@[simp] theorem ev_call (n : Nat) (m : DF) (t : EF (List D)) : gCall n m t ρ μ = (match t ρ μ with
  | .ok ds ρ' μ' => callV n m ds ρ' μ'
  | .exc x ρ' μ' => .exc x ρ' μ'
  | .no => .no) := by
  simp only [gCall, bnd, sBnd]
  cases t ρ μ <;> rfl
@[simp] theorem ev_turn (tg : TF) (cnd : EF Bool) (elt : EF Vl) (d : D) : turnE tg cnd elt d ρ μ = (match tg d ρ μ with
  | .ok _ ρ' μ' => (match cnd ρ' μ' with
    | .ok b ρ2 μ2 => if b = true then (match gFrz elt ρ2 μ2 with
      | .ok v ρ3 μ3 => turnV v ρ3 μ3
      | .exc x ρ' μ' => .exc x ρ' μ'
      | .no => .no) else .ok none ρ2 μ2
    | .exc x ρ' μ' => .exc x ρ' μ'
    | .no => .no)
  | .exc x ρ' μ' => .exc x ρ' μ'
  | .no => .no) := by
  unfold turnE
  simp only [bnd]
  cases tg d ρ μ with
  | ok a ρ1 μ1 =>
    dsimp only
    cases cnd ρ1 μ1 with
    | ok b ρ2 μ2 =>
      cases b with
      | true =>
        show bnd (gFrz elt) turnV ρ2 μ2 = _
        unfold bnd
        dsimp only
        rw [if_pos rfl]
        cases gFrz elt ρ2 μ2 <;> rfl
      | false => rfl
    | _ => rfl
  | _ => rfl
@[simp] theorem ev_turnV (d : D) : turnV (.val d) ρ μ = .ok (some d) ρ μ := rfl
@[simp] theorem ev_yes : tYesB ρ μ = .ok true ρ μ := rfl
@[simp] theorem ev_wipe0 : wipeR ρ [] = ρ := rfl
@[simp] theorem ev_wipe (v : Nat) (vs : List Nat) : wipeR ρ (v :: vs) = (wipeR ρ vs).set v .un := rfl
@[simp] theorem ev_noOw0 : noOw ρ [] = true := rfl
@[simp] theorem ev_noOw (v : Nat) (vs : List Nat) : noOw ρ (v :: vs) = ((match ρ[v]? with
  | some (.ow _) => false
  | _ => true) && noOw ρ vs) := rfl
/-! operators -/
@[simp] theorem ev_add_int (i j : Int) : hAdd (.int i) (.int j) ρ μ = .ok (.val (.int (i + j))) ρ μ := rfl
@[simp] theorem ev_add_str {i j : Str} (h : i.length + j.length ≤ sizeLine) : hAdd (.str i) (.str j) ρ μ = .ok (.val (.str (i ++ j))) ρ μ := if_pos h
@[simp] theorem ev_add_lst {i j : List D} (h : i.length + j.length ≤ sizeLine) : hAdd (.lst i) (.lst j) ρ μ = .ok (.frs (.lst (i ++ j))) ρ μ := if_pos h
@[simp] theorem ev_add_tup {i j : List D} (h : i.length + j.length ≤ sizeLine) : hAdd (.tup i) (.tup j) ρ μ = .ok (.val (.tup (i ++ j))) ρ μ := if_pos h
@[simp] theorem ev_mul_int {i j : Int} (h : mulOk i j = true) : hMul (.int i) (.int j) ρ μ = .ok (.val (.int (i * j))) ρ μ := if_pos h
theorem ev_mul_lst0 {i : List D} {k : Int} (h : -(2 ^ 63) ≤ k ∧ k < 2 ^ 63 ∧ i.length * k.toNat ≤ sizeLine) : hMul (.lst i) (.int k) ρ μ = .ok (.frs (.lst (repD k.toNat i))) ρ μ := if_pos h
theorem ev_mul_lst {i : List D} {k : Nat} (h : k < 1000) (h2 : i.length < 1000) : hMul (.lst i) (.int k) ρ μ = .ok (.frs (.lst (repD k i))) ρ μ := by
  have h3 : i.length * k ≤ 1000 * 1000 := Nat.mul_le_mul (by omega) (by omega)
  rw [ev_mul_lst0 ⟨by omega, by omega, by rw [Int.toNat_natCast, sizeLine_eq]; omega⟩, Int.toNat_natCast]
@[simp] theorem ev_hInt {c : Int → Int → Bool} {f : Int → Int → D} {i j : Int} (h : c i j = true) : hInt c f (.int i) (.int j) ρ μ = .ok (.val (f i j)) ρ μ := if_pos h
@[simp] theorem ev_neg (i : Int) : hNeg (.int i) ρ μ = .ok (.val (.int (-i))) ρ μ := rfl
@[simp] theorem ev_okD_some (d : D) : okD (some d) ρ μ = .ok (.val d) ρ μ := rfl
@[simp] theorem ev_okN_some (d : Nat) : okN (some d) ρ μ = .ok (.val (.int d)) ρ μ := rfl
@[simp] theorem ev_okB_some (d : Bool) : okB (some d) ρ μ = .ok (.val (.bl d)) ρ μ := rfl
@[simp] theorem ev_hBool (f : D → D → Option Bool) (a b : D) : hBool f a b ρ μ = (match f a b with
  | some k => .ok (.val (.bl k)) ρ μ
  | none => .no) := rfl
@[simp] theorem ev_h1 (f : D → Option D) (d : D) : h1 f d ρ μ = okD (f d) ρ μ := rfl
@[simp] theorem ev_h2 (f : D → D → Option D) (a b : D) : h2 f a b ρ μ = okD (f a b) ρ μ := rfl
@[simp] theorem ev_ix (a b : D) : hIx a b ρ μ = okD (ixD a b) ρ μ := rfl
@[simp] theorem ev_ixA (a b : D) : hIxA a b ρ μ = okD (ixA a b) ρ μ := rfl
@[simp] theorem ev_ixA_tup (a : List D) (b : D) : ixA (.tup a) b = ixD (.tup a) b := rfl
@[simp] theorem ev_ixA_lst (a : List D) (b : D) : ixA (.lst a) b = ixD (.lst a) b := rfl
@[simp] theorem ev_ixA_scr (a : List D) (b : D) : ixA (.scr a) b = ixD (.scr a) b := rfl
@[simp] theorem ev_ixA_str (a : Str) (b : D) : ixA (.str a) b = ixD (.str a) b := rfl
@[simp] theorem ev_ixA_dic (a c : List D) (b : D) : ixA (.dic a c) b = (keyD b).bind (dicAt a c) := rfl
@[simp] theorem ev_ixD_tup (a : List D) (i : Int) : ixD (.tup a) (.int i) = L2.atI a i := rfl
@[simp] theorem ev_ixD_lst (a : List D) (i : Int) : ixD (.lst a) (.int i) = L2.atI a i := rfl
@[simp] theorem ev_ixD_scr (a : List D) (i : Int) : ixD (.scr a) (.int i) = L2.atI a i := rfl
@[simp] theorem ev_ixD_str {z : Str} {i : Int} (h : z.length ≤ sizeLine) : ixD (.str z) (.int i) = (L2.atI z.cps.toList i).map fun c => .str ⟨#[c]⟩ := if_pos h
@[simp] theorem ev_int_int (i : Int) : intD (.int i) = some (.int i) := rfl
@[simp] theorem ev_int_bl (k : Bool) : intD (.bl k) = some (.int (if k then 1 else 0)) := rfl
@[simp] theorem ev_abs (i : Int) : absD (.int i) = some (.int (if i < 0 then -i else i)) := rfl
@[simp] theorem ev_max (i j : Int) : maxD (.int i) (.int j) = some (.int (if j > i then j else i)) := rfl
@[simp] theorem ev_min (i j : Int) : minD (.int i) (.int j) = some (.int (if j < i then j else i)) := rfl
@[simp] theorem ev_dvm {i j : Int} (h : 0 < j) (h2 : j < 1073741824) : dvmD (.int i) (.int j) = some (.tup [.int (i / j), .int (i % j)]) := if_pos ⟨h, h2⟩
@[simp] theorem ev_len (d : D) : hLen d ρ μ = okN (lenD d) ρ μ := rfl
@[simp] theorem ev_len_tup (ds : List D) : lenD (.tup ds) = some ds.length := rfl
@[simp] theorem ev_len_lst (ds : List D) : lenD (.lst ds) = some ds.length := rfl
@[simp] theorem ev_len_scr (ds : List D) : lenD (.scr ds) = some ds.length := rfl
@[simp] theorem ev_len_str {z : Str} (h : z.length ≤ sizeLine) : lenD (.str z) = some z.length := if_pos h
@[simp] theorem ev_hIsN (d : D) : hIsN d ρ μ = .ok (.val (.bl (isN d))) ρ μ := rfl
@[simp] theorem ev_hNotN (d : D) : hNotN d ρ μ = .ok (.val (.bl (!isN d))) ρ μ := rfl
@[simp] theorem ev_isN_non : isN .non = true := rfl
@[simp] theorem ev_isN_int (i : Int) : isN (.int i) = false := rfl
@[simp] theorem ev_isN_str (i : Str) : isN (.str i) = false := rfl
@[simp] theorem ev_isN_bl (i : Bool) : isN (.bl i) = false := rfl
@[simp] theorem ev_isN_tup (i : List D) : isN (.tup i) = false := rfl
@[simp] theorem ev_isiT (L : List Str) (T : String) (d : D) : hIsiT L T d ρ μ = okB (isiT L T (tyOf μ d)) ρ μ := rfl
@[simp] theorem ev_isiC (L : List Str) (C : Str) (d : D) : hIsiC L C d ρ μ = okB (isiC L C (tyOf μ d)) ρ μ := rfl
@[simp] theorem ev_hTuple_lst (ds : List D) : hTuple (.lst ds) ρ μ = .ok (.val (.tup ds)) ρ μ := rfl
@[simp] theorem ev_hTuple_tup (ds : List D) : hTuple (.tup ds) ρ μ = .ok (.val (.tup ds)) ρ μ := rfl
@[simp] theorem ev_hList_lst (ds : List D) : hList (.lst ds) ρ μ = .ok (.frs (.lst ds)) ρ μ := rfl
@[simp] theorem ev_hList_tup (ds : List D) : hList (.tup ds) ρ μ = .ok (.frs (.lst ds)) ρ μ := rfl
@[simp] theorem ev_hAll (d : D) : hAll d ρ μ = okD (allD d) ρ μ := rfl
@[simp] theorem ev_hAny (d : D) : hAny d ρ μ = okD (anyD d) ρ μ := rfl
@[simp] theorem ev_hSum (d : D) : hSum d ρ μ = okD (sumD d) ρ μ := rfl
/-! iteration -/
@[simp] theorem ev_iAnyV (d : D) : iAnyV (.val d) ρ μ = (match itemsD d with
    | some ds => .ok ds ρ μ
    | none => .no) := by
  simp only [iAnyV, bnd, sBnd]
  cases itemsD d <;> rfl
@[simp] theorem ev_iAny (g : EF Vl) : iAny g ρ μ = (match gFrz g ρ μ with
  | .ok a ρ' μ' => iAnyV a ρ' μ'
  | .exc x ρ' μ' => .exc x ρ' μ'
  | .no => .no) := by
  simp only [iAny, bnd, sBnd]
  cases gFrz g ρ μ <;> rfl
@[simp] theorem ev_items_lst (ds : List D) : itemsD (.lst ds) = some ds := rfl
@[simp] theorem ev_items_tup (ds : List D) : itemsD (.tup ds) = some ds := rfl
@[simp] theorem ev_items_scr (ds : List D) : itemsD (.scr ds) = some ds := rfl
@[simp] theorem ev_items_str (x : Str) : itemsD (.str x) = some (signsD x) := rfl
theorem ev_rng1V {j : Int} (h : -(2 ^ 62) ≤ j ∧ j < 2 ^ 62) : iRng1V [.int j] ρ μ = .ok (rngD 0 j.toNat) ρ μ := if_pos h
@[simp] theorem ev_rng1 (t : EF (List D)) : iRng1 t ρ μ = (match t ρ μ with
  | .ok a ρ' μ' => iRng1V a ρ' μ'
  | .exc x ρ' μ' => .exc x ρ' μ'
  | .no => .no) := by
  simp only [iRng1, bnd, sBnd]
  cases t ρ μ <;> rfl
theorem ev_rng2V {i j : Int} (h : -(2 ^ 62) ≤ i ∧ i < 2 ^ 62 ∧ -(2 ^ 62) ≤ j ∧ j < 2 ^ 62) : iRng2V [.int i, .int j] ρ μ = .ok (rngD i (j - i).toNat) ρ μ := if_pos h
@[simp] theorem ev_rng2 (t : EF (List D)) : iRng2 t ρ μ = (match t ρ μ with
  | .ok a ρ' μ' => iRng2V a ρ' μ'
  | .exc x ρ' μ' => .exc x ρ' μ'
  | .no => .no) := by
  simp only [iRng2, bnd, sBnd]
  cases t ρ μ <;> rfl
@[simp] theorem ev_enmV_tup (ds : List D) : iEnmV [.tup ds] ρ μ = .ok (pairsD ds) ρ μ := rfl
@[simp] theorem ev_enmV_lst (ds : List D) : iEnmV [.lst ds] ρ μ = .ok (pairsD ds) ρ μ := rfl
@[simp] theorem ev_enm (t : EF (List D)) : iEnm t ρ μ = (match t ρ μ with
  | .ok a ρ' μ' => iEnmV a ρ' μ'
  | .exc x ρ' μ' => .exc x ρ' μ'
  | .no => .no) := by
  simp only [iEnm, bnd, sBnd]
  cases t ρ μ <;> rfl
/-! stores -/
@[simp] theorem ev_mutL_slt (f : List D → Option (List D)) (i : Nat) : mutL f (.slt i) ρ μ = mutO i f ρ μ ρ[i]? := rfl
@[simp] theorem ev_mutL_mrf (f : List D → Option (List D)) (k : Nat) : mutL f (.val (.mrf k)) ρ μ = mutM k f ρ μ μ[k]? := rfl
@[simp] theorem ev_mutO (i : Nat) (f : List D → Option (List D)) (ds : List D) : mutO i f ρ μ (some (.ow (.lst ds))) = (match f ds with
    | some ds' => .ok () (ρ.set i (.ow (.lst ds'))) μ
    | none => .no) := rfl
@[simp] theorem ev_mutM (k : Nat) (f : List D → Option (List D)) (ds : List D) : mutM k f ρ μ (some (.lst ds)) = (match f ds with
    | some ds' => .ok () ρ (μ.set k (.lst ds'))
    | none => .no) := rfl
@[simp] theorem ev_subV (d : D) (x y : Vl) : toSubV d x y ρ μ = (match con μ ρ y with
  | some (.int k) => mutL (fun l => (L2.ixN l.length k).map fun j => l.set j d) x ρ μ
  | _ => .no) := rfl
@[simp] theorem ev_sub (go gi : EF Vl) (d : D) : toSub go gi d ρ μ = (match go ρ μ with
  | .ok x ρ' μ' => (match gi ρ' μ' with
    | .ok y ρ2 μ2 => toSubV d x y ρ2 μ2
    | .exc x ρ' μ' => .exc x ρ' μ'
    | .no => .no)
  | .exc x ρ' μ' => .exc x ρ' μ'
  | .no => .no) := by
  simp only [toSub, bnd, sBnd]
  cases go ρ μ with
  | ok x1 ρ1 μ1 =>
    dsimp only
    cases gi ρ1 μ1 <;> rfl
  | _ => rfl
def methK (T : String) (hm : Vl → List D → EF Vl) (t : EF (List D)) (x : Vl) : Option D → EF Vl
  | some d => fun ρ μ => if tagD d = T ∧ T ≠ "" then bnd t (hm x) ρ μ else .no
  | none => stuck
theorem methK_ok {T : String} {hm : Vl → List D → EF Vl} {t : EF (List D)} {x : Vl} {d : D} (h : tagD d = T) (h2 : T ≠ "") : methK T hm t x (some d) ρ μ = (match t ρ μ with
  | .ok ds ρ2 μ2 => hm x ds ρ2 μ2
  | .exc x ρ' μ' => .exc x ρ' μ'
  | .no => .no) := (if_pos (c := tagD d = T ∧ T ≠ "") ⟨h, h2⟩).trans (by
  simp only [bnd]
  cases t ρ μ <;> rfl)
@[simp] theorem methK_str {hm : Vl → List D → EF Vl} {t : EF (List D)} {x : Vl} {z : Str} : methK "str" hm t x (some (.str z)) ρ μ = (match t ρ μ with
  | .ok ds ρ2 μ2 => hm x ds ρ2 μ2
  | .exc x ρ' μ' => .exc x ρ' μ'
  | .no => .no) := methK_ok rfl (by decide)
@[simp] theorem methK_lst {hm : Vl → List D → EF Vl} {t : EF (List D)} {x : Vl} {z : List D} : methK "list" hm t x (some (.lst z)) ρ μ = (match t ρ μ with
  | .ok ds ρ2 μ2 => hm x ds ρ2 μ2
  | .exc x ρ' μ' => .exc x ρ' μ'
  | .no => .no) := methK_ok rfl (by decide)
@[simp] theorem ev_meth (T : String) (hm : Vl → List D → EF Vl) (g : EF Vl) (t : EF (List D)) : gMeth T hm g t ρ μ = (match g ρ μ with
  | .ok x ρ' μ' => methK T hm t x (con μ' ρ' x) ρ' μ'
  | .exc x ρ' μ' => .exc x ρ' μ'
  | .no => .no) := by
  simp only [gMeth, bnd]
  cases g ρ μ with
  | ok x ρ' μ' =>
    dsimp only
    cases con μ' ρ' x <;> rfl
  | _ => rfl
@[simp] theorem ev_tag_str (z : Str) : tagD (.str z) = "str" := rfl
@[simp] theorem ev_tag_lst (z : List D) : tagD (.lst z) = "list" := rfl
@[simp] theorem ev_byD (h : D → List D → EF Vl) (x : Vl) (ds : List D) : byD h x ds ρ μ = (match con μ ρ x with
  | some d => h d ds ρ μ
  | none => .no) := rfl
def appD (l : List D) (d : D) : Option (List D) := if l.length < sizeLine then some (l ++ [d]) else none
@[simp] theorem appD_ok {l : List D} {d : D} (h : l.length < sizeLine) : appD l d = some (l ++ [d]) := if_pos h
@[simp] theorem ev_append (x : Vl) (d : D) : mAppend x [d] ρ μ = (match mutL (fun l => appD l d) x ρ μ with
  | .ok _ ρ' μ' => .ok (.val .non) ρ' μ'
  | .exc x ρ' μ' => .exc x ρ' μ'
  | .no => .no) := by
  show bnd (mutL (fun l => appD l d) x) (fun _ => ret (Vl.val .non)) ρ μ = _
  unfold bnd
  cases mutL (fun l => appD l d) x ρ μ <;> rfl
@[simp] theorem ev_split {a b : Str} (h : (b.length == 0) = false) (h2 : a.length + 2 ≤ sizeLine) : hSplit (.str a) [.str b] ρ μ = .ok (.frs (.lst (strsD (Txt.split a b)))) ρ μ := by
  unfold hSplit
  dsimp only
  rw [if_pos ⟨h, h2⟩]
  rfl
/-! slices -/
@[simp] theorem ev_pNone : pNone ρ μ = .ok none ρ μ := rfl
@[simp] theorem ev_pSomeV (i : Int) : pSomeV (.int i) ρ μ = .ok (some i) ρ μ := rfl
@[simp] theorem ev_pSome (g : EF Vl) : pSome g ρ μ = (match g ρ μ with
  | .ok x ρ' μ' => (match con μ' ρ' x with
    | some d => pSomeV d ρ' μ'
    | none => .no)
  | .exc x ρ' μ' => .exc x ρ' μ'
  | .no => .no) := by
  simp only [pSome, bnd, sBnd]
  cases g ρ μ <;> rfl
@[simp] theorem ev_sl (g : EF Vl) (lo hi : EF (Option Int)) : gSl g lo hi ρ μ = (match g ρ μ with
  | .ok x ρ' μ' => (match lo ρ' μ' with
    | .ok l ρ2 μ2 => (match hi ρ2 μ2 with
      | .ok h ρ3 μ3 => (match con μ3 ρ3 x with
        | some d => hSl l h d ρ3 μ3
        | none => .no)
      | .exc x ρ' μ' => .exc x ρ' μ'
      | .no => .no)
    | .exc x ρ' μ' => .exc x ρ' μ'
    | .no => .no)
  | .exc x ρ' μ' => .exc x ρ' μ'
  | .no => .no) := by
  simp only [gSl, bnd, sBnd]
  cases g ρ μ with
  | ok x1 ρ1 μ1 =>
    dsimp only
    cases lo ρ1 μ1 with
    | ok x2 ρ2 μ2 =>
      dsimp only
      cases hi ρ2 μ2 <;> rfl
    | _ => rfl
  | _ => rfl
@[simp] theorem ev_sl_lst (lo hi : Option Int) (ds : List D) : hSl lo hi (.lst ds) ρ μ = .ok (.frs (.lst (cutD ds lo hi))) ρ μ := rfl
@[simp] theorem ev_sl_tup (lo hi : Option Int) (ds : List D) : hSl lo hi (.tup ds) ρ μ = .ok (.val (.tup (cutD ds lo hi))) ρ μ := rfl
@[simp] theorem ev_sl_str {lo hi : Option Int} {z : Str} (h : z.length ≤ sizeLine) : hSl lo hi (.str z) ρ μ = .ok (.val (.str (Txt.slice z lo hi))) ρ μ := by
  unfold hSl
  dsimp only
  rw [if_pos h]
  rfl
/-! several names -/
@[simp] theorem ev_vNil : vNil ρ μ = .ok [] ρ μ := rfl
@[simp] theorem ev_vCons (g : EF Vl) (t : EF (List Vl)) : vCons g t ρ μ = (match g ρ μ with
  | .ok x ρ' μ' => (match t ρ' μ' with
    | .ok xs ρ2 μ2 => .ok (x :: xs) ρ2 μ2
    | .exc x ρ' μ' => .exc x ρ' μ'
    | .no => .no)
  | .exc x ρ' μ' => .exc x ρ' μ'
  | .no => .no) := by
  simp only [vCons, bnd, sBnd]
  cases g ρ μ with
  | ok x1 ρ1 μ1 =>
    dsimp only
    cases t ρ1 μ1 <;> rfl
  | _ => rfl
@[simp] theorem ev_slotV_val (d : D) : slotV (.val d) = some (.fz d) := rfl
@[simp] theorem ev_slotV_frs (d : D) : slotV (.frs d) = some (.ow d) := rfl
@[simp] theorem ev_putVs0 : putVs [] [] ρ μ = .nx ρ μ := rfl
@[simp] theorem ev_putVs (i : Nat) (is : List Nat) (x : Vl) (xs : List Vl) : putVs (i :: is) (x :: xs) ρ μ = (match slotV x with
    | some s => putVs is xs (ρ.set i s) μ
    | none => .no) := rfl
@[simp] theorem ev_par (is : List Nat) (t : EF (List Vl)) : sPar is t ρ μ = (match t ρ μ with
  | .ok xs ρ' μ' => putVs is xs ρ' μ'
  | .exc x ρ' μ' => .exc x ρ' μ'
  | .no => .no) := by
  simp only [sPar, bnd, sBnd]
  cases t ρ μ <;> rfl
def parK (is : List Nat) (xs : List Vl) : SF := if xs.length ≤ sizeLine then putVs is xs else sNever
@[simp] theorem parK_ok {is : List Nat} {xs : List Vl} (h : xs.length ≤ sizeLine) : parK is xs ρ μ = putVs is xs ρ μ := by
  unfold parK
  rw [if_pos h]
@[simp] theorem ev_parT (is : List Nat) (t : EF (List Vl)) : sParT is t ρ μ = (match t ρ μ with
  | .ok xs ρ' μ' => parK is xs ρ' μ'
  | .exc x ρ' μ' => .exc x ρ' μ'
  | .no => .no) := by
  simp only [sParT, sBnd]
  cases t ρ μ <;> rfl
end
theorem mulOk_r {i j : Int} (h1 : -18446744073709551616 < j) (h2 : j < 18446744073709551616) : mulOk i j = true := by
  unfold mulOk
  simp [h1, h2]
theorem mulOk_l {i j : Int} (h1 : -18446744073709551616 < i) (h2 : i < 18446744073709551616) : mulOk i j = true := by
  unfold mulOk
  simp [h1, h2]
end DL
set_option maxRecDepth 100000
set_option maxHeartbeats 2000000
/-! Texts, orders, lists. -/
namespace DL
open PySem
/-! ### texts -/
theorem str_ext {a b : Str} (h : a.cps.toList = b.cps.toList) : a = b := by
  obtain ⟨⟨l⟩⟩ := a
  obtain ⟨⟨m⟩⟩ := b
  exact congrArg (fun l => (⟨⟨l⟩⟩ : Str)) h
@[simp] theorem app_list (a b : Str) : (a ++ b).cps.toList = a.cps.toList ++ b.cps.toList := by
  show (a.cps ++ b.cps).toList = _
  simp
theorem len_list (a : Str) : a.length = a.cps.toList.length := by
  show a.cps.size = _
  simp
theorem len_app (a b : Str) : (a ++ b).length = a.length + b.length := by
  rw [len_list, len_list, len_list, app_list, List.length_append]
theorem app_assoc (a b c : Str) : a ++ b ++ c = a ++ (b ++ c) := str_ext (by simp)
theorem empty_app (b : Str) : Str.empty ++ b = b := str_ext (by rw [app_list]; rfl)
theorem app_empty (b : Str) : b ++ Str.empty = b := str_ext (by rw [app_list]; show _ ++ ([] : List Nat) = _; simp)
@[simp] theorem list_mk (l : List Nat) : (⟨⟨l⟩⟩ : Str).cps.toList = l := rfl
@[simp] theorem len_mk (l : List Nat) : (⟨⟨l⟩⟩ : Str).length = l.length := rfl
/-- the words between single blanks, glued -/
theorem join_uniq (c : Nat) : ∀ {us vs : List Str}, us ≠ [] → vs ≠ [] → (∀ u ∈ us, c ∉ u.cps.toList) → (∀ u ∈ vs, c ∉ u.cps.toList) → Str.join ⟨#[c]⟩ us = Str.join ⟨#[c]⟩ vs → us = vs := by
  have cut : ∀ {a b p q : List Nat}, c ∉ a → c ∉ b → a ++ c :: p = b ++ c :: q → a = b ∧ p = q := by
    intro a
    induction a with
    | nil =>
      intro b p q _ hb e
      cases b with
      | nil => simp at e; exact ⟨rfl, e⟩
      | cons y b => simp at e; exact absurd (by rw [e.1]; simp) hb
    | cons x a ih =>
      intro b p q ha hb e
      cases b with
      | nil => simp at e; exact absurd (by rw [← e.1]; simp) ha
      | cons y b =>
        simp at e ha hb
        obtain ⟨h1, h2⟩ := ih (b := b) ha.2 hb.2 e.2
        exact ⟨by rw [e.1, h1], h2⟩
  intro us
  induction us with
  | nil => intro vs h; exact absurd rfl h
  | cons u us ih =>
    intro vs _ hv fu fv e
    cases vs with
    | nil => exact absurd rfl hv
    | cons v vs =>
      have cu := fu u (by simp)
      have cv := fv v (by simp)
      cases us with
      | nil =>
        cases vs with
        | nil => rw [show u = v from e]
        | cons v2 vs =>
          have e2 := congrArg (fun z : Str => z.cps.toList) e
          replace e2 : u.cps.toList = (v ++ ⟨#[c]⟩ ++ Str.join ⟨#[c]⟩ (v2 :: vs)).cps.toList := e2
          rw [app_list, app_list] at e2
          exact absurd (by rw [e2]; simp) cu
      | cons u2 us =>
        cases vs with
        | nil =>
          have e2 := congrArg (fun z : Str => z.cps.toList) e
          replace e2 : (u ++ ⟨#[c]⟩ ++ Str.join ⟨#[c]⟩ (u2 :: us)).cps.toList = v.cps.toList := e2
          rw [app_list, app_list] at e2
          exact absurd (by rw [← e2]; simp) cv
        | cons v2 vs =>
          have e2 := congrArg (fun z : Str => z.cps.toList) e
          replace e2 : (u ++ ⟨#[c]⟩ ++ Str.join ⟨#[c]⟩ (u2 :: us)).cps.toList = (v ++ ⟨#[c]⟩ ++ Str.join ⟨#[c]⟩ (v2 :: vs)).cps.toList := e2
          simp only [app_list] at e2
          replace e2 : u.cps.toList ++ [c] ++ _ = v.cps.toList ++ [c] ++ _ := e2
          rw [List.append_assoc, List.append_assoc] at e2
          obtain ⟨h1, h2⟩ := cut cu cv e2
          rw [str_ext h1, ih (by simp) (by simp) (fun x hx => fu x (List.mem_cons_of_mem _ hx)) (fun x hx => fv x (List.mem_cons_of_mem _ hx)) (str_ext h2)]
/-- split finds the words again -/
theorem split_join {c : Nat} {ws : List Str} (hn : ws ≠ []) (h : ∀ w ∈ ws, c ∉ w.cps.toList) : Txt.split (Str.join ⟨#[c]⟩ ws) ⟨#[c]⟩ = ws := by
  refine join_uniq c (fun z => ?_) hn (StrLaws.split_free _ c) h (StrLaws.join_split _ _)
  have := PyProof.Rows.split_pos (Str.join ⟨#[c]⟩ ws) ⟨#[c]⟩
  rw [z] at this
  simp at this
/-! ### truths -/
@[simp] theorem bls_nil : blsD [] = some [] := rfl
@[simp] theorem bls_cons (b : Bool) (ds : List D) : blsD (.bl b :: ds) = (blsD ds).map (b :: ·) := rfl
theorem bls_map {α : Type} (f : α → Bool) : ∀ l : List α, blsD (l.map fun x => .bl (f x)) = some (l.map f)
  | [] => rfl
  | x :: l => by rw [List.map_cons, bls_cons, bls_map f l]; rfl
theorem all_map {α : Type} (f : α → Bool) (l : List α) : allD (.lst (l.map fun x => .bl (f x))) = some (.bl (l.all f)) := by
  show (blsD _).map _ = _
  rw [bls_map]
  show some (D.bl ((l.map f).all id)) = _
  rw [List.all_map]
  rfl
/-! ### pieces of lists -/
@[simp] theorem cut_all (ds : List D) : cutD ds none none = ds := by
  show (ds.drop 0).take (ds.length - 0) = ds
  simp
@[simp] theorem cut_to (ds : List D) (k : Nat) : cutD ds none (some (k : Int)) = ds.take k := by
  unfold cutD
  rw [HT.sIx_none, HT.sIx_nat, List.drop_zero, Nat.sub_zero]
  by_cases h : k ≤ ds.length
  · rw [Nat.min_eq_left h]
  · rw [Nat.min_eq_right (by omega), List.take_of_length_le (Nat.le_refl _), List.take_of_length_le (by omega)]
@[simp] theorem cut_from (ds : List D) (k : Nat) : cutD ds (some (k : Int)) none = ds.drop k := by
  unfold cutD
  rw [HT.sIx_none, HT.sIx_nat]
  by_cases h : k ≤ ds.length
  · rw [Nat.min_eq_left h, List.take_of_length_le (by simp)]
  · rw [Nat.min_eq_right (by omega), List.drop_of_length_le (Nat.le_refl _), List.drop_of_length_le (by omega)]
    simp
theorem cut_mid (ds : List D) (i k : Nat) : cutD ds (some (i : Int)) (some (k : Int)) = (ds.drop i).take (k - i) := by
  unfold cutD
  rw [HT.sIx_nat, HT.sIx_nat]
  by_cases h : i ≤ ds.length
  · rw [Nat.min_eq_left h]
    by_cases h2 : k ≤ ds.length
    · rw [Nat.min_eq_left h2]
    · rw [Nat.min_eq_right (by omega), List.take_of_length_le (by simp), List.take_of_length_le (by simp; omega)]
  · rw [show min i ds.length = ds.length by omega, List.drop_of_length_le (Nat.le_refl _), List.drop_of_length_le (show ds.length ≤ i by omega)]
    simp
theorem at_nat {α : Type} (ds : List α) (k : Nat) : L2.atI ds (k : Int) = ds[k]? := by
  unfold L2.atI L2.ixN
  rw [if_pos (by omega)]
  by_cases h : k < ds.length
  · rw [if_pos (by omega)]
    simp
  · rw [if_neg (by omega), List.getElem?_eq_none (by omega)]
    rfl
theorem at_last {α : Type} (ds : List α) (x : α) : L2.atI (ds ++ [x]) (-1) = some x := by
  unfold L2.atI L2.ixN
  rw [if_neg (by omega), if_pos (by simp; omega)]
  show (ds ++ [x])[(-1 + ((ds ++ [x]).length : Int)).toNat]? = some x
  rw [show (-1 + ((ds ++ [x]).length : Int)).toNat = ds.length by simp; omega]
  simp
/-! ### ascending texts -/
theorem ltS_irrefl (a : Str) : ltS a a = false := by
  unfold ltS
  simp [List.lt_irrefl]
theorem ltS_trans {a b c : Str} (h : ltS a b = true) (h2 : ltS b c = true) : ltS a c = true := by
  unfold ltS at *
  simp only [decide_eq_true_eq] at *
  exact List.lt_trans h h2
theorem ltS_total {a b : Str} (h : ltS a b = false) (h2 : ltS b a = false) : a = b := by
  unfold ltS at *
  simp only [decide_eq_false_iff_not] at *
  exact str_ext (List.le_antisymm (List.not_lt.mp h2) (List.not_lt.mp h))
end DL
set_option maxRecDepth 100000
set_option maxHeartbeats 2000000
/-! ==, in, of data. -/
namespace DL
open PySem
theorem toPys_strs : ∀ l : List Str, toPys (strsD l) = some (l.map .str)
  | [] => rfl
  | x :: l => by
    show (some (PyData.str x)).bind (fun p => (toPys (strsD l)).map (p :: ·)) = _
    rw [toPys_strs l]
    rfl
def optD : Option Int → D
  | none => .non
  | some i => .int i
def optP : Option Int → PyData
  | none => .none
  | some i => .int i
theorem toPys_opts : ∀ l : List (Option Int), toPys (l.map optD) = some (l.map optP)
  | [] => rfl
  | x :: l => by
    show (toPy (optD x)).bind (fun p => (toPys (l.map optD)).map (p :: ·)) = _
    rw [toPys_opts l]
    cases x <;> rfl
theorem lay_strs : ∀ {l : List Str}, (∀ x ∈ l, PyData.strOk x = true) → PyData.canLayAll0 (l.map .str) = true ∧ PyData.depthAll (l.map .str) = 0
  | [], _ => by simp [PyData.canLayAll0, PyData.depthAll]
  | x :: l, h => by
    obtain ⟨h1, h2⟩ := lay_strs (l := l) (fun y hy => h y (List.mem_cons_of_mem _ hy))
    simp [PyData.canLayAll0, PyData.depthAll, PyData.canLay0, PyData.depth, h1, h2, h x (by simp)]
theorem lay_opts : ∀ l : List (Option Int), PyData.canLayAll0 (l.map optP) = true ∧ PyData.depthAll (l.map optP) = 0
  | [] => by simp [PyData.canLayAll0, PyData.depthAll]
  | x :: l => by
    obtain ⟨h1, h2⟩ := lay_opts l
    cases x <;> simp [PyData.canLayAll0, PyData.depthAll, PyData.canLay0, PyData.depth, optP, h1, h2]
theorem eqv_strs : ∀ l m : List Str, PyData.eqvAll (l.map .str) (m.map .str) = decide (l = m)
  | [], [] => by simp [PyData.eqvAll]
  | [], _ :: _ => by simp [PyData.eqvAll]
  | _ :: _, [] => by simp [PyData.eqvAll]
  | x :: l, y :: m => by
    simp only [List.map_cons, PyData.eqvAll, PyData.eqv, eqv_strs l m]
    by_cases h : x = y
    · subst h; simp
    · simp [h]
theorem eqv_opt (a b : Option Int) : PyData.eqv (optP a) (optP b) = decide (a = b) := by
  cases a with
  | none => cases b <;> simp [optP, PyData.eqv]
  | some i => cases b with
    | none => simp [optP, PyData.eqv]
    | some j =>
      simp only [optP, PyData.eqv]
      by_cases h : i = j
      · subst h; simp
      · simp [h]
theorem eqv_opts : ∀ l m : List (Option Int), PyData.eqvAll (l.map optP) (m.map optP) = decide (l = m)
  | [], [] => by simp [PyData.eqvAll]
  | [], _ :: _ => by simp [PyData.eqvAll]
  | _ :: _, [] => by simp [PyData.eqvAll]
  | x :: l, y :: m => by
    simp only [List.map_cons, PyData.eqvAll, eqv_opt, eqv_opts l m]
    by_cases h : x = y
    · subst h; simp
    · simp [h]
theorem eqB_of {a b : D} {p q : PyData} (ha : toPy a = some p) (hb : toPy b = some q) (h1 : SeqAt.shaped p = true) (h2 : SeqAt.shaped q = true) : eqB a b = some (PyData.eqv p q) := by
  unfold eqB
  rw [ha, hb]
  simp [h1, h2]
theorem shaped_strs {l : List Str} (h : ∀ x ∈ l, PyData.strOk x = true) : SeqAt.shaped (.tuple (l.map .str)) = true := by
  obtain ⟨h1, h2⟩ := lay_strs h
  simp [SeqAt.shaped, PyData.canLay0, PyData.depth, h1, h2]
theorem shaped_opts (l : List (Option Int)) : SeqAt.shaped (.tuple (l.map optP)) = true := by
  obtain ⟨h1, h2⟩ := lay_opts l
  simp [SeqAt.shaped, PyData.canLay0, PyData.depth, h1, h2]
theorem eq_strs {l m : List Str} (h : ∀ x ∈ l, PyData.strOk x = true) (h2 : ∀ x ∈ m, PyData.strOk x = true) : eqB (.tup (strsD l)) (.tup (strsD m)) = some (decide (l = m)) := by
  rw [eqB_of (p := .tuple (l.map .str)) (q := .tuple (m.map .str)) (by show (toPys _).map _ = _; rw [toPys_strs]; rfl) (by show (toPys _).map _ = _; rw [toPys_strs]; rfl) (shaped_strs h) (shaped_strs h2)]
  show some (PyData.eqvAll _ _) = _
  rw [eqv_strs]
theorem eq_opts (l m : List (Option Int)) : eqB (.tup (l.map optD)) (.tup (m.map optD)) = some (decide (l = m)) := by
  rw [eqB_of (p := .tuple (l.map optP)) (q := .tuple (m.map optP)) (by show (toPys _).map _ = _; rw [toPys_opts]; rfl) (by show (toPys _).map _ = _; rw [toPys_opts]; rfl) (shaped_opts l) (shaped_opts m)]
  show some (PyData.eqvAll _ _) = _
  rw [eqv_opts]
theorem eq_str {a b : Str} (h : PyData.strOk a = true) (h2 : PyData.strOk b = true) : eqB (.str a) (.str b) = some (decide (a = b)) := by
  rw [eqB_of (p := .str a) (q := .str b) rfl rfl (by simp [SeqAt.shaped, PyData.canLay0, PyData.depth, h]) (by simp [SeqAt.shaped, PyData.canLay0, PyData.depth, h2])]
  show some (a == b) = _
  by_cases e : a = b
  · subst e; simp
  · simp [e]
@[simp] theorem eq_int (a b : Int) : eqB (.int a) (.int b) = some (decide (a = b)) := by
  rw [eqB_of (p := .int a) (q := .int b) rfl rfl (by simp [SeqAt.shaped, PyData.canLay0, PyData.depth]) (by simp [SeqAt.shaped, PyData.canLay0, PyData.depth])]
  show some (a == b) = _
  by_cases e : a = b
  · subst e; simp
  · simp [e]
@[simp] theorem eq_bl (a b : Bool) : eqB (.bl a) (.bl b) = some (a == b) := by
  rw [eqB_of (p := .bool a) (q := .bool b) rfl rfl (by simp [SeqAt.shaped, PyData.canLay0, PyData.depth]) (by simp [SeqAt.shaped, PyData.canLay0, PyData.depth])]
  rfl
theorem ne_of {a b : D} {k : Bool} (h : eqB a b = some k) : neB a b = some (!k) := by
  unfold neB
  rw [h]
  rfl
@[simp] theorem ne_int (a b : Int) : neB (.int a) (.int b) = some (!decide (a = b)) := ne_of (eq_int a b)
/-- plain data: equal to itself -/
def plainD (d : D) : Prop := ∃ p, toPy d = some p ∧ SeqAt.shaped p = true
mutual
theorem eqv_refl : ∀ p : PyData, p.canLay0 = true → PyData.eqv p p = true
  | .none, _ => rfl
  | .bool b, _ => by simp [PyData.eqv]
  | .int i, _ => by simp [PyData.eqv]
  | .str x, _ => by simp [PyData.eqv]
  | .list xs, h => by
    simp only [PyData.eqv]
    exact eqvAll_refl xs (by simpa [PyData.canLay0] using h)
  | .tuple xs, h => by
    simp only [PyData.eqv]
    exact eqvAll_refl xs (by simpa [PyData.canLay0] using h)
  | .dict _, h => by simp [PyData.canLay0] at h
theorem eqvAll_refl : ∀ xs : List PyData, PyData.canLayAll0 xs = true → PyData.eqvAll xs xs = true
  | [], _ => rfl
  | x :: xs, h => by
    simp only [PyData.canLayAll0, Bool.and_eq_true] at h
    simp only [PyData.eqvAll, Bool.and_eq_true]
    exact ⟨eqv_refl x h.1, eqvAll_refl xs h.2⟩
end
theorem eq_self {d : D} (h : plainD d) : eqB d d = some true := by
  obtain ⟨p, e, s⟩ := h
  rw [eqB_of e e s s, eqv_refl p (SeqAt.canLay_of_shaped s)]
theorem eq_nil_tup {ds : List D} (h : plainD (.tup ds)) : eqB (.tup ds) (.tup []) = some (decide (ds.length = 0)) := by
  obtain ⟨p, e, s⟩ := h
  rw [eqB_of (q := .tuple []) e rfl s (by simp [SeqAt.shaped, PyData.canLay0, PyData.depth, PyData.canLayAll0, PyData.depthAll])]
  replace e : (toPys ds).map PyData.tuple = some p := e
  cases ds with
  | nil => cases e; rfl
  | cons d ds =>
    obtain ⟨ps, e1, rfl⟩ := Option.map_eq_some_iff.mp e
    obtain ⟨p, e2, e3⟩ := Option.bind_eq_some_iff.mp (show (toPy d).bind (fun p => (toPys ds).map (p :: ·)) = some ps from e1)
    obtain ⟨qs, e4, rfl⟩ := Option.map_eq_some_iff.mp e3
    simp [PyData.eqv, PyData.eqvAll]
theorem rng1_ok {t : EF (List D)} {ρ ρ' : Env} {μ μ' : Mu} {n : Nat} (h : t ρ μ = .ok [.int n] ρ' μ') (hn : n ≤ 1000000000) : iRng1 t ρ μ = .ok (rngD 0 n) ρ' μ' := by
  rw [ev_rng1, h]
  dsimp only
  rw [ev_rng1V ⟨by omega, by omega⟩, Int.toNat_natCast]
/-! ### in -/
theorem in_flat (x : Str) : ∀ l : List Str, inF (.str x) (strsD l) = decide (x ∈ l)
  | [] => by simp [inF, strsD, L2.inV]
  | y :: l => by
    have ih := in_flat x l
    unfold inF L2.inV at ih ⊢
    simp only [strsD, List.map_cons, List.any_cons] at ih ⊢
    rw [ih]
    by_cases h : x = y
    · subst h; simp [toV, L2.eqV]
    · simp [toV, L2.eqV, h, Ne.symm h]
theorem flat_strs (l : List Str) : (strsD l).all flatD = true := by
  induction l with
  | nil => rfl
  | cons x l ih => simp [strsD, flatD] at ih ⊢
@[simp] theorem in_lst (x : Str) (l : List Str) : inB (.str x) (.lst (strsD l)) = some (decide (x ∈ l)) := by
  show inSeq _ _ _ _ = _
  unfold inSeq
  rw [flat_strs, in_flat]
  rfl
@[simp] theorem in_tup (x : Str) (l : List Str) : inB (.str x) (.tup (strsD l)) = some (decide (x ∈ l)) := by
  show inSeq _ _ _ _ = _
  unfold inSeq
  rw [flat_strs, in_flat]
  rfl
@[simp] theorem nin_lst (x : Str) (l : List Str) : notInB (.str x) (.lst (strsD l)) = some (!decide (x ∈ l)) := by
  unfold notInB
  rw [in_lst]
  rfl
@[simp] theorem nin_tup (x : Str) (l : List Str) : notInB (.str x) (.tup (strsD l)) = some (!decide (x ∈ l)) := by
  unfold notInB
  rw [in_tup]
  rfl
@[simp] theorem in_str (c : Nat) (z : Str) : inB (.str ⟨#[c]⟩) (.str z) = some (decide (c ∈ z.cps.toList)) := rfl
@[simp] theorem lt_int (a b : Int) : ltB (.int a) (.int b) = some (decide (a < b)) := rfl
@[simp] theorem lt_str (a b : Str) : ltB (.str a) (.str b) = some (ltS a b) := rfl
theorem strsD_app (l m : List Str) : strsD l ++ strsD m = strsD (l ++ m) := by simp [strsD]
theorem strsD_len (l : List Str) : (strsD l).length = l.length := by simp [strsD]
theorem slice_to (x : Str) (k : Nat) : (Txt.slice x none (some (k : Int))).cps.toList = x.cps.toList.take k := by
  have e : Builtin.Str.strSliceIndices none (some (k : Int)) 1 x.length = Builtin.Str.strSliceIndices (some ((0 : Nat) : Int)) (some ((min k x.length : Nat) : Int)) 1 x.length := by
    unfold Builtin.Str.strSliceIndices
    simp only [show (1 : Int) > 0 by decide, if_true]
    congr 1
    split <;> split <;> omega
  have e2 : Txt.slice x none (some (k : Int)) = Txt.slice x (some ((0 : Nat) : Int)) (some ((min k x.length : Nat) : Int)) := by
    unfold Txt.slice
    rw [e]
  rw [e2, PySem.W.os_slice (Nat.zero_le _) (Nat.min_le_right _ _)]
  have l : x.cps.toList.length = x.length := Array.length_toList
  rw [List.drop_zero, Nat.sub_zero, ← l]
  by_cases h : k ≤ x.cps.toList.length
  · rw [Nat.min_eq_left h]
  · rw [Nat.min_eq_right (by omega), List.take_of_length_le (Nat.le_refl _), List.take_of_length_le (by omega)]
theorem nodup_sub {α : Type} [DecidableEq α] : ∀ {l m : List α}, l.Nodup → (∀ x ∈ l, x ∈ m) → l.length ≤ m.length
  | [], _, _, _ => Nat.zero_le _
  | x :: l, m, h, s => by
    rw [List.nodup_cons] at h
    have hx := s x (by simp)
    have := nodup_sub (l := l) (m := m.erase x) h.2 (fun y hy => by
      refine (List.mem_erase_of_ne ?_).mpr (s y (List.mem_cons_of_mem _ hy))
      intro z
      rw [z] at hy
      exact h.1 hy)
    rw [List.length_erase_of_mem hx] at this
    have := List.length_pos_of_mem hx
    simp only [List.length_cons]
    omega
end DL
set_option maxRecDepth 100000
set_option maxHeartbeats 2000000
/-! sorted. -/
namespace DL
open PySem
theorem ltK_str (a b : Str) : ltK (.str a) (.str b) = ltS a b := by
  unfold ltK
  show PyProof.Rows.lexLt PyProof.Rows.itemOrd [Sum.inr a.cps.toList] [Sum.inr b.cps.toList] = _
  rw [PyProof.Rows.lex_cons]
  show (decide (a.cps.toList < b.cps.toList) || (!decide (b.cps.toList < a.cps.toList) && false)) = _
  rw [Bool.and_false, Bool.or_false]
  rfl
theorem perm_strs : ∀ {es : List D} {l : List Str}, es.Perm (strsD l) → ∃ m, es = strsD m ∧ m.Perm l := fun {es l} h => by
  have key : ∀ (es : List D), (∀ d ∈ es, ∃ x, d = .str x) → es = strsD (es.map strOfD) := fun es => by
    induction es with
    | nil => intro _; rfl
    | cons d es ih =>
      intro h
      obtain ⟨x, rfl⟩ := h d (by simp)
      have := ih fun d hd => h d (List.mem_cons_of_mem _ hd)
      simp only [List.map_cons, strsD, strOfD] at this ⊢
      rw [← this]
  refine ⟨es.map strOfD, key es fun d hd => ?_, ?_⟩
  · obtain ⟨x, _, e⟩ := List.mem_map.mp (h.mem_iff.mp hd)
    exact ⟨x, e.symm⟩
  · have := h.map strOfD
    have e : (strsD l).map strOfD = l := by
      simp only [strsD, List.map_map]
      exact List.map_id'' (fun _ => rfl) l
    rw [e] at this
    exact this
theorem sort_strs {l : List Str} (nd : l.Nodup) : ∃ m, sortD (strsD l) = strsD m ∧ m.Perm l ∧ m.Pairwise (fun a b => ltS a b = true) := by
  obtain ⟨m, e, p⟩ := perm_strs (sortD_perm (strsD l))
  refine ⟨m, e, p, ?_⟩
  have s := sortD_sorted (strsD l)
  rw [e] at s
  have s2 : m.Pairwise (fun a b => leK (.str a) (.str b) = true) := by
    unfold strsD at s
    exact List.pairwise_map.mp s
  have nd2 : m.Nodup := p.nodup_iff.mpr nd
  refine (s2.and nd2).imp fun {a b} h => ?_
  obtain ⟨h1, h2⟩ := h
  unfold leK at h1
  rw [ltK_str] at h1
  cases q : ltS a b with
  | true => rfl
  | false => exact absurd (ltS_total q (by simpa using h1)) h2
theorem sortB_strs {l : List Str} (h : l.length < 64) : sortB (strsD l) = true := by
  unfold sortB
  rw [Bool.or_eq_true, Bool.and_eq_true]
  refine .inl ⟨?_, by simpa [strsD] using h⟩
  rw [List.all_eq_true]
  intro d hd
  obtain ⟨x, _, rfl⟩ := List.mem_map.mp hd
  rfl
/-! pairs -/
def pairD (p : Str × Str) : D := .tup [.str p.1, .str p.2]
def ltP (p q : Str × Str) : Bool := ltS p.1 q.1 || (decide (p.1 = q.1) && ltS p.2 q.2)
def unpair : D → Str × Str
  | .tup [.str a, .str b] => (a, b)
  | _ => (Str.empty, Str.empty)
theorem ltB_pair (p q : Str × Str) : ltB (pairD p) (pairD q) = some (ltP p q) := by
  obtain ⟨a, b⟩ := p
  obtain ⟨c, d⟩ := q
  show ltL [.str a, .str b] [.str c, .str d] = _
  unfold ltP
  simp only [ltL, eqI, ltF]
  by_cases h : a = c
  · subst h
    by_cases h2 : b = d
    · subst h2
      simp [ltS_irrefl]
    · simp [beq_false_of_ne h2, ltS_irrefl]
  · by_cases h2 : b = d
    · simp [h, beq_false_of_ne h, h2]
    · simp [h, beq_false_of_ne h, beq_false_of_ne h2]
theorem ltK_pair (p q : Str × Str) : ltK (pairD p) (pairD q) = ltP p q := by
  obtain ⟨a, b⟩ := p
  obtain ⟨c, d⟩ := q
  unfold ltK
  show PyProof.Rows.lexLt PyProof.Rows.itemOrd [Sum.inr a.cps.toList, Sum.inr b.cps.toList] [Sum.inr c.cps.toList, Sum.inr d.cps.toList] = _
  rw [PyProof.Rows.lex_cons, PyProof.Rows.lex_cons]
  show (ltS a c || (!ltS c a && (ltS b d || (!ltS d b && false)))) = _
  rw [Bool.and_false, Bool.or_false]
  unfold ltP
  by_cases h : a = c
  · subst h; simp [ltS_irrefl]
  · simp only [h, decide_false, Bool.false_and, Bool.or_false]
    cases q1 : ltS a c with
    | true => rfl
    | false =>
      cases q2 : ltS c a with
      | true => rfl
      | false => exact absurd (ltS_total q1 q2) h
theorem ltP_irrefl (p : Str × Str) : ltP p p = false := by simp [ltP, ltS_irrefl]
theorem ltP_total {p q : Str × Str} (h : ltP p q = false) (h2 : ltP q p = false) : p = q := by
  obtain ⟨a, b⟩ := p
  obtain ⟨c, d⟩ := q
  simp only [ltP, Bool.or_eq_false_iff] at h h2
  have e := ltS_total h.1 h2.1
  subst e
  simp at h h2
  rw [ltS_total h.2 h2.2]
theorem ltP_trans {p q r : Str × Str} (h : ltP p q = true) (h2 : ltP q r = true) : ltP p r = true := by
  obtain ⟨a, b⟩ := p
  obtain ⟨c, d⟩ := q
  obtain ⟨e, f⟩ := r
  simp only [ltP, Bool.or_eq_true, Bool.and_eq_true, decide_eq_true_eq] at *
  rcases h with h | ⟨rfl, h⟩
  · rcases h2 with h2 | ⟨rfl, h2⟩
    · exact .inl (ltS_trans h h2)
    · exact .inl h
  · rcases h2 with h2 | ⟨rfl, h2⟩
    · exact .inl h2
    · exact .inr ⟨rfl, ltS_trans h h2⟩
theorem perm_pairs {es : List D} {l : List (Str × Str)} (h : es.Perm (l.map pairD)) : ∃ m : List (Str × Str), es = m.map pairD ∧ m.Perm l := by
  have key : ∀ (es : List D), (∀ d ∈ es, ∃ x, d = pairD x) → es = (es.map unpair).map pairD := fun es => by
    induction es with
    | nil => intro _; rfl
    | cons d es ih =>
      intro h
      obtain ⟨x, rfl⟩ := h d (by simp)
      have := ih fun d hd => h d (List.mem_cons_of_mem _ hd)
      simp only [List.map_cons]
      rw [← this]
      rfl
  refine ⟨es.map unpair, key es fun d hd => ?_, ?_⟩
  · obtain ⟨x, _, e⟩ := List.mem_map.mp (h.mem_iff.mp hd)
    exact ⟨x, e.symm⟩
  · have := h.map unpair
    have e : (l.map pairD).map unpair = l := by
      simp only [List.map_map]
      exact List.map_id'' (fun _ => rfl) l
    rw [e] at this
    exact this
theorem sort_pairs {l : List (Str × Str)} (nd : l.Nodup) : ∃ m : List (Str × Str), sortD (l.map pairD) = m.map pairD ∧ m.Perm l ∧ m.Pairwise (fun a b => ltP a b = true) := by
  obtain ⟨m, e, p⟩ := perm_pairs (sortD_perm (l.map pairD))
  refine ⟨m, e, p, ?_⟩
  have s := sortD_sorted (l.map pairD)
  rw [e] at s
  have s2 : m.Pairwise (fun a b => leK (pairD a) (pairD b) = true) := List.pairwise_map.mp s
  have nd2 : m.Nodup := p.nodup_iff.mpr nd
  refine (s2.and nd2).imp fun {a b} h => ?_
  obtain ⟨h1, h2⟩ := h
  unfold leK at h1
  rw [ltK_pair] at h1
  cases q : ltP a b with
  | true => rfl
  | false => exact absurd (ltP_total q (by simpa using h1)) h2
theorem sortB_pairs {l : List (Str × Str)} (h : l.length ≤ 1000) : sortB (l.map pairD) = true := by
  unfold sortB
  rw [Bool.or_eq_true, Bool.and_eq_true, Bool.and_eq_true]
  refine .inr ⟨?_, by rw [decide_eq_true_eq, List.length_map, sizeLine_eq]; omega⟩
  rw [List.all_eq_true]
  intro d hd
  obtain ⟨x, hx, rfl⟩ := List.mem_map.mp hd
  cases l with
  | nil => simp at hx
  | cons y l =>
    show itemsB _ 0 [.str x.1, .str x.2] = true
    simp [itemsB, shapeD, pairD]
theorem ev_sorted {ds : List D} {ρ : Env} {μ : Mu} (h : sortB ds = true) : hSorted (.lst ds) ρ μ = .ok (.frs (.lst (sortD ds))) ρ μ := by
  show srtL ds ρ μ = _
  unfold srtL
  rw [if_pos h]
  rfl
end DL
set_option maxRecDepth 100000
set_option maxHeartbeats 2000000
/-! Calls of lambdas, making of instances. -/
namespace DL
open PySem
/-- no closures in it -/
def Clean (μ : Mu) : Prop := ∀ p : Nat → Bool, μ.all (noCm p) = true
theorem noC_strs (p : Nat → Bool) : ∀ l : List Str, noCs p (strsD l) = true
  | [] => rfl
  | x :: l => by
    show (noC p (.str x) && noCs p (strsD l)) = true
    rw [noC_strs p l]
    rfl
theorem noC_pairs (p : Nat → Bool) : ∀ l : List (Str × Str), noCs p (l.map pairD) = true
  | [] => rfl
  | x :: l => by
    show (noC p (pairD x) && noCs p (l.map pairD)) = true
    rw [noC_pairs p l]
    rfl
theorem noC_opts (p : Nat → Bool) : ∀ l : List (Option Int), noCs p (l.map optD) = true
  | [] => rfl
  | x :: l => by
    show (noC p (optD x) && noCs p (l.map optD)) = true
    rw [noC_opts p l]
    cases x <;> rfl
section
variable {ρ : Env} {μ : Mu}
@[simp] theorem ev_callM (n : Nat) (m : DF) (num : Nat) (js : List Nat) (t : EF (List D)) : gCallM n m num js t ρ μ = (match t ρ μ with
  | .ok ds ρ' μ' => callM n m num js ds ρ' μ'
  | .exc x ρ' μ' => .exc x ρ' μ'
  | .no => .no) := by
  simp only [gCallM, bnd]
  cases t ρ μ <;> rfl
@[simp] theorem ev_aLam : aLam ρ μ = .ok [] ρ μ := rfl
/-- a call with a lambda as its last argument -/
theorem callM_ok {n : Nat} {m : DF} {num : Nat} {js : List Nat} {ds env : List D} {d : D} {μ' : Mu} (he : envOf ρ js = some env) (hl : ds.length + 1 = n) (h : m (ds ++ [.clo num env]) μ = .ok d μ') (hd : noC (fun _ => true) d = true) (hm : Clean μ') : callM n m num js ds ρ μ = .ok (.val d) ρ μ' := by
  unfold callM
  rw [he]
  dsimp only
  rw [if_pos hl, h]
  unfold liftM
  dsimp only
  rw [hd, hm]
  rfl
theorem lam_ok {num n : Nat} {g : EF Vl} {env ds : List D} {d : D} {ρ' : Env} {μ' : Mu} (h1 : noCs (· == num) env = true) (h2 : noCs (· == num) ds = true) (h3 : Clean μ) (h : gFrz g (startL n ds env) μ = .ok (.val d) ρ' μ') : lamF num n g env ds μ = .ok d μ' := by
  unfold lamF
  rw [h1, h2, h3]
  show endL (gFrz g (startL n ds env) μ) = _
  rw [h]
  rfl
theorem callS_ok {i n : Nat} {disp : D → Option DF} {t : EF (List D)} {c d : D} {m : DF} {ds : List D} {ρ' : Env} {μ1 μ' : Mu} (hc : ρ[i]? = some (.fz c)) (hd : disp c = some m) (ht : t ρ μ = .ok ds ρ' μ1) (hl : ds.length = n) (h : m ds μ1 = .ok d μ') : gCallS i n disp t ρ μ = .ok (.val d) ρ' μ' := by
  unfold gCallS slotF
  rw [hc]
  show (match disp c with
    | some m => bnd t (callV n m) ρ μ
    | none => .no) = _
  rw [hd]
  dsimp only
  rw [ev_bnd, ht]
  dsimp only
  rw [ev_callV m hl, h]
  rfl
/-- an instance made -/
theorem make_ok {C : Str} {n : Nat} {m : DF} {t : EF (List D)} {ds : List D} {ρ' : Env} {μ1 : Mu} {fs : List (Str × D)} (ht : t ρ μ = .ok ds ρ' μ1) (hl : ds.length + 1 = n) (h : m (.mrf μ1.length :: ds) (μ1 ++ [.ins C []]) = .ok .non (μ1 ++ [.ins C fs])) (hf : noRf μ1.length fs = true) (hm : μ1.all (noRm μ1.length) = true) :
    gMake C n m t ρ μ = .ok (.frs (.obj C fs)) ρ' μ1 := by
  unfold gMake
  rw [ev_bnd, ht]
  dsimp only
  unfold makeV
  rw [if_pos hl, h]
  dsimp only
  have e : madeF C μ1.length (μ1 ++ [.ins C fs]) = some (fs, μ1) := by
    unfold madeF
    rw [List.getElem?_append_right (Nat.le_refl _), Nat.sub_self]
    show (if C = C then some fs else none).bind _ = _
    rw [if_pos rfl]
    show (if _ then _ else _) = _
    rw [if_pos ⟨by simp, hf, by rw [List.take_left']; exact hm; rfl⟩, List.take_left']
    rfl
  rw [e]
@[simp] theorem ev_fldK {C f : Str} {fs : List (Str × D)} : hFld C f (.obj C fs) ρ μ = okD (fs.lookup f) ρ μ := by
  show (if C = C then okD (fs.lookup f) else stuck) ρ μ = _
  rw [if_pos rfl]
/-- self.f = value, in __init__ -/
theorem fldS_ok {C f : Str} {gv go : EF Vl} {ρ' ρ2 : Env} {μ1 μ2 : Mu} {k : Nat} {d : D} {fs : List (Str × D)} (hv : gFrz gv ρ μ = .ok (.val d) ρ' μ1) (ho : go ρ' μ1 = .ok (.val (.mrf k)) ρ2 μ2) (hk : μ2[k]? = some (.ins C fs)) (hl : fs.length < 1000) :
    sFldS C f gv go ρ μ = .nx ρ2 (μ2.set k (.ins C (putD f d fs))) := by
  unfold sFldS
  rw [ev_sBnd, hv]
  dsimp only
  rw [ev_sBnd, ho]
  dsimp only
  show (match mutM2 C k (fun fs => if fs.length < 1000 then some (putD f d fs) else none) ρ2 μ2 μ2[k]? with
    | .ok _ ρ' μ' => SR.nx ρ' μ'
    | _ => .no) = _
  rw [hk]
  show (match (if C = C then (match (if fs.length < 1000 then some (putD f d fs) else none) with
    | some fs' => R.ok () ρ2 (μ2.set k (.ins C fs'))
    | none => .no) else .no) with
    | .ok _ ρ' μ' => SR.nx ρ' μ'
    | _ => .no) = _
  rw [if_pos rfl, if_pos hl]
/-- a property of a frozen instance -/
theorem prop_ok {C : Str} {m : DF} {g : EF Vl} {ρ' : Env} {μ1 μ' : Mu} {fs : List (Str × D)} {d : D} (hg : gFrz g ρ μ = .ok (.val (.obj C fs)) ρ' μ1) (h : m [.obj C fs] μ1 = .ok d μ') : gProp C m g ρ μ = .ok (.val d) ρ' μ' := by
  unfold gProp
  rw [ev_bnd, hg]
  dsimp only
  rw [if_pos (show clsD μ1 (.obj C fs) = some C from rfl)]
  unfold gProp.callV0
  rw [h]
end
theorem pairs_getD {ds : List D} {i : Nat} {d : D} (e : (pairsD ds)[i]? = some d) : ∃ x, ds[i]? = some x ∧ d = .tup [.int (i : Nat), x] := pairs_get e
theorem pairsD_len (ds : List D) : (pairsD ds).length = ds.length := by simp [pairsD]
end DL
set_option maxRecDepth 100000
set_option maxHeartbeats 2000000
/-! f'..', dicts. -/
namespace DL
open PySem
section
variable {ρ : Env} {μ : Mu}
@[simp] theorem ev_join (gs : List (EF Vl)) : gJoin gs ρ μ = gJs gs Str.empty ρ μ := rfl
@[simp] theorem ev_js0 (acc : Str) : gJs [] acc ρ μ = .ok (.val (.str acc)) ρ μ := rfl
@[simp] theorem ev_js (g : EF Vl) (gs : List (EF Vl)) (acc : Str) : gJs (g :: gs) acc ρ μ = (match gFrz g ρ μ with
  | .ok v ρ' μ' => joinV acc (gJs gs) v ρ' μ'
  | .exc x ρ' μ' => .exc x ρ' μ'
  | .no => .no) := by
  show bnd (gFrz g) (joinV acc (gJs gs)) ρ μ = _
  unfold bnd
  cases gFrz g ρ μ <;> rfl
@[simp] theorem ev_joinV {acc y : Str} {k : Str → EF Vl} (h : acc.length + y.length ≤ sizeLine) : joinV acc k (.val (.str y)) ρ μ = k (acc ++ y) ρ μ := by
  show (if (acc ++ y).length ≤ sizeLine then k (acc ++ y) else stuck) ρ μ = _
  rw [if_pos (by rw [len_app]; exact h)]
@[simp] theorem ev_fmt (g : EF Vl) : gFmt g ρ μ = g1 (h1 fmtD) g ρ μ := rfl
@[simp] theorem fmt_str {y : Str} (h : y.length ≤ sizeLine) : fmtD (.str y) = some (.str y) := if_pos h
@[simp] theorem ev_star (g : EF Vl) (t : EF (List D)) : aStar g t ρ μ = (match gFrz g ρ μ with
  | .ok v ρ' μ' => starV t v ρ' μ'
  | .exc x ρ' μ' => .exc x ρ' μ'
  | .no => .no) := by
  simp only [aStar, bnd]
  cases gFrz g ρ μ <;> rfl
@[simp] theorem starV_lst (t : EF (List D)) (ds : List D) : starV t (.val (.lst ds)) ρ μ = (match t ρ μ with
  | .ok es ρ' μ' => .ok (ds ++ es) ρ' μ'
  | .exc x ρ' μ' => .exc x ρ' μ'
  | .no => .no) := by
  show bnd t (fun es => ret (ds ++ es)) ρ μ = _
  unfold bnd
  cases t ρ μ <;> rfl
@[simp] theorem starV_tup (t : EF (List D)) (ds : List D) : starV t (.val (.tup ds)) ρ μ = (match t ρ μ with
  | .ok es ρ' μ' => .ok (ds ++ es) ρ' μ'
  | .exc x ρ' μ' => .exc x ρ' μ'
  | .no => .no) := by
  show bnd t (fun es => ret (ds ++ es)) ρ μ = _
  unfold bnd
  cases t ρ μ <;> rfl
theorem keysD_ints : ∀ l : List Nat, keysD (l.map fun i => D.int (i : Nat)) = some (l.map fun (i : Nat) => .inl (i : Int))
  | [] => rfl
  | i :: l => by
    show (match keyD (.int i), keysD (l.map fun i => D.int (i : Nat)) with
      | some k, some ks => some (k :: ks)
      | _, _ => none) = _
    rw [keysD_ints l]
    rfl
theorem dictzip_ok {t : EF (List D)} {ρ' : Env} {μ' : Mu} {l : List Nat} {es : List D} (h : t ρ μ = .ok [.lst (l.map fun i => D.int (i : Nat)), .tup es] ρ' μ') (nd : l.Nodup) (hl : l.length = es.length) : gDictZip t ρ μ = .ok (.frs (.dic (l.map fun i => D.int (i : Nat)) es)) ρ' μ' := by
  unfold gDictZip bnd
  rw [h]
  show (match keysD (l.map fun i => D.int (i : Nat)) with
      | some ks => fun ρ μ => if decide ks.Nodup && ks.length == es.length then R.ok (Vl.frs (.dic (l.map fun i => D.int (i : Nat)) es)) ρ μ else .no
      | none => stuck) ρ' μ' = _
  rw [keysD_ints]
  have n2 : (l.map fun (i : Nat) => (.inl (i : Int) : L2.Key)).Nodup := by
    refine List.pairwise_map.mpr (nd.imp fun {a b} h e => h ?_)
    have := Sum.inl.inj e
    omega
  show (if decide (l.map fun (i : Nat) => (.inl (i : Int) : L2.Key)).Nodup && (l.map fun (i : Nat) => (.inl (i : Int) : L2.Key)).length == es.length then R.ok (Vl.frs (.dic (l.map fun i => D.int (i : Nat)) es)) ρ' μ' else .no) = _
  rw [if_pos (by rw [Bool.and_eq_true, decide_eq_true_eq, beq_iff_eq]; exact ⟨n2, by simpa using hl⟩)]
end
/-- the value at the i-th of a row of numbers -/
theorem dicAt_range (a : Nat) : ∀ (n s : Nat) (vs : List D) (i : Nat), vs.length = n → dicAt ((List.range' s n).map fun k => D.int ((a + k : Nat) : Int)) vs (.inl (i : Int)) = if a + s ≤ i ∧ i < a + s + n then vs[i - (a + s)]? else none
  | 0, s, vs, i, h => by
    rw [if_neg (by omega)]
    rfl
  | n + 1, s, vs, i, h => by
    cases vs with
    | nil => simp at h
    | cons v vs =>
      rw [List.range'_succ, List.map_cons]
      show (if (some (.inl ((a + s : Nat) : Int)) : Option L2.Key) = some (.inl (i : Int)) then some v else dicAt ((List.range' (s + 1) n).map fun k => D.int ((a + k : Nat) : Int)) vs (.inl (i : Int))) = _
      by_cases e : i = a + s
      · subst e
        rw [if_pos rfl, if_pos (by omega), Nat.sub_self]
        rfl
      · rw [if_neg (fun z => e (by have := Sum.inl.inj (Option.some.inj z); omega)), dicAt_range a n (s + 1) vs i (by simpa using h)]
        by_cases h2 : a + s ≤ i ∧ i < a + s + (n + 1)
        · rw [if_pos h2, if_pos (by omega), show i - (a + s) = (i - (a + (s + 1))) + 1 by omega]
          rfl
        · rw [if_neg h2, if_neg (by omega)]
end DL
set_option maxRecDepth 100000
set_option maxHeartbeats 4000000
namespace Nk83
open PySem PySem.Spec L2 NdefX DL
open PyProof.Rows (envOfC)
def cls : List Str := ["Web"]
def c_LETTERS : D := (.str "abcdefghijklmnopqrstuvwxyz")
def c_MOST_LETTERS : D := (.int 8)
def c_WORDS : D := (.tup [(.str "all"), (.str "apart"), (.str "back"), (.str "beside"), (.str "book"), (.str "case"), (.str "differ"), (.str "fill"), (.str "free"), (.str "halves"), (.str "in"), (.str "like"), (.str "lone"), (.str "lucky"), (.str "mark"), (.str "marks"), (.str "next"), (.str "none"), (.str "of"), (.str "ones"), (.str "open"), (.str "out"), (.str "place"), (.str "put"), (.str "quit"), (.str "rests"), (.str "rule"), (.str "span"), (.str "steps"), (.str "sum"), (.str "sums"), (.str "take"), (.str "tie"), (.str "undo"), (.str "unlike"), (.str "web"), (.str "yes")])
def c_MOST_PLACES : D := (.int 7)
def c_MOST_TIES : D := (.int 10)
def c_RULE : D := (.str "rule")
def c_RULES : D := (.tup [(.str "steps"), (.str "rests"), (.str "halves"), (.str "like"), (.str "unlike"), (.str "lucky"), (.str "ones"), (.str "far"), (.str "free")])
def c_PLACE : D := (.str "place")
def d_NAMES : List (Str × D) := [("place", (.int 1)), ("tie", (.int 2))]
def c_LIKE : D := (.str "like")
def c_TIE : D := (.str "tie")
def c_ONES : D := (.str "ones")
def c_UNLIKE : D := (.str "unlike")
def c_OPEN : D := (.str "open")
def c_MOST_FIGURES : D := (.int 400)
def c_FIGURES : D := (.str "0123456789")
def t_ORDER : List Str := ["rule", "place", "tie"]
def c_MOST_LIKE : D := (.int 10)
def c_MOST_UNLIKE : D := (.int 7)
noncomputable def m__law_draw : DF := sld (bodyF 4 ((sSeq (sIf (gB (g2 iGt (g2 hIx (gName 0) (gC (.int 0))) (gC (.int 0)))) (sSeq (sAsg (toTup 2 (toCons (toSub (gName 0) (gC (.int 0))) (toCons (toName 2) toNil))) (g2 (h2 dvmD) (g2 hIx (gName 0) (gC (.int 0))) (gName 1)))
    (sRet (gName 2))) sNil)
    (sSeq (sAsg (toSub (gName 0) (gC (.int 2))) (g2 hAdd (g2 hIx (gName 0) (gC (.int 2))) (gC (.int 1))))
    (sSeq (sSet 3 (g2 iMod (g1 (h1 intD) (g2 hAdd (g2 hMul (g2 hIx (gName 0) (gC (.int 1))) (gC (.int 39373))) (g2 hMul (gC (.int 17011)) (g2 hIx (gName 0) (gC (.int 2)))))) (gC (.int 2147483563))))
    (sSeq (sAsg (toSub (gName 0) (gC (.int 1))) (g2 iMod (g1 (h1 intD) (g2 hAdd (g2 hMul (gName 3) (g2 hAdd (g2 iMod (g1 (h1 intD) (gName 3)) (gC (.int 4093))) (gC (.int 30011)))) (g2 hMul (gC (.int 7)) (g2 hIx (gName 0) (gC (.int 2)))))) (gC (.int 2147483563))))
    (sRet (g2 iMod (g1 (h1 intD) (g2 iDiv (g2 hIx (gName 0) (gC (.int 1))) (gC (.int 733)))) (gName 1)))))))))
theorem m__law_draw_eq : m__law_draw = bodyF 4 ((sSeq (sIf (gB (g2 iGt (g2 hIx (gName 0) (gC (.int 0))) (gC (.int 0)))) (sSeq (sAsg (toTup 2 (toCons (toSub (gName 0) (gC (.int 0))) (toCons (toName 2) toNil))) (g2 (h2 dvmD) (g2 hIx (gName 0) (gC (.int 0))) (gName 1)))
    (sRet (gName 2))) sNil)
    (sSeq (sAsg (toSub (gName 0) (gC (.int 2))) (g2 hAdd (g2 hIx (gName 0) (gC (.int 2))) (gC (.int 1))))
    (sSeq (sSet 3 (g2 iMod (g1 (h1 intD) (g2 hAdd (g2 hMul (g2 hIx (gName 0) (gC (.int 1))) (gC (.int 39373))) (g2 hMul (gC (.int 17011)) (g2 hIx (gName 0) (gC (.int 2)))))) (gC (.int 2147483563))))
    (sSeq (sAsg (toSub (gName 0) (gC (.int 1))) (g2 iMod (g1 (h1 intD) (g2 hAdd (g2 hMul (gName 3) (g2 hAdd (g2 iMod (g1 (h1 intD) (gName 3)) (gC (.int 4093))) (gC (.int 30011)))) (g2 hMul (gC (.int 7)) (g2 hIx (gName 0) (gC (.int 2)))))) (gC (.int 2147483563))))
    (sRet (g2 iMod (g1 (h1 intD) (g2 iDiv (g2 hIx (gName 0) (gC (.int 1))) (gC (.int 733)))) (gName 1)))))))) := sld_eq _
noncomputable def m__law_of : DF := sld (bodyF 2 ((sRet (g2 hIxA (gName 1) (gCall 2 m__law_draw (aCons (gName 0) (aCons (g1 hLen (gName 1)) aNil)))))))
theorem m__law_of_eq : m__law_of = bodyF 2 ((sRet (g2 hIxA (gName 1) (gCall 2 m__law_draw (aCons (gName 0) (aCons (g1 hLen (gName 1)) aNil)))))) := sld_eq _
noncomputable def fb__law_names_1 : SF := sld ((sSet 7 (g2 hAdd (gName 7) (g2 hIxA (gC (.str "abcdefghijklmnopqrstuvwxyz")) (gCall 2 m__law_draw (aCons (gName 0) (aCons (gC (.int 26)) aNil)))))))
theorem fb__law_names_1_eq : fb__law_names_1 = ((sSet 7 (g2 hAdd (gName 7) (g2 hIxA (gC (.str "abcdefghijklmnopqrstuvwxyz")) (gCall 2 m__law_draw (aCons (gName 0) (aCons (gC (.int 26)) aNil))))))) := sld_eq _
noncomputable def fo__law_names_2 : SF := sld (sFor (iRng1 (aCons (gCall 2 m__law_of (aCons (gName 0) (aCons (gTup (aCons (gC (.int 1)) (aCons (gC (.int 1)) (aCons (gC (.int 2)) (aCons (gC (.int 3)) (aCons (gC (.int 5)) (aCons (gC (.int 8)) aNil))))))) aNil))) aNil)) (toName 8) fb__law_names_1)
theorem fo__law_names_2_eq : fo__law_names_2 = (sFor (iRng1 (aCons (gCall 2 m__law_of (aCons (gName 0) (aCons (gTup (aCons (gC (.int 1)) (aCons (gC (.int 1)) (aCons (gC (.int 2)) (aCons (gC (.int 3)) (aCons (gC (.int 5)) (aCons (gC (.int 8)) aNil))))))) aNil))) aNil)) (toName 8) fb__law_names_1) := sld_eq _
noncomputable def lc__law_names_3 : EF Vl := sld (gLc [11] (iAny (gC (.str "abcdefghijklmnopqrstuvwxyz"))) (toName 11) tYesB (g2 hAdd (gSl (gName 7) pNone (pSome (gC (.int 7)))) (gName 11)))
theorem lc__law_names_3_eq : lc__law_names_3 = (gLc [11] (iAny (gC (.str "abcdefghijklmnopqrstuvwxyz"))) (toName 11) tYesB (g2 hAdd (gSl (gName 7) pNone (pSome (gC (.int 7)))) (gName 11))) := sld_eq _
noncomputable def m__law_own : DF := sld (bodyF 0 ((sRet (gMeth "str" (byD hSplit) (gC (.str "far free halves like lucky ones rests steps unlike")) (aCons (gC (.str " ")) aNil)))))
theorem m__law_own_eq : m__law_own = bodyF 0 ((sRet (gMeth "str" (byD hSplit) (gC (.str "far free halves like lucky ones rests steps unlike")) (aCons (gC (.str " ")) aNil)))) := sld_eq _
noncomputable def lc__law_names_4 : EF Vl := sld (gLc [10] (iAny (g2 hAdd (gLst (aCons (gName 7) aNil)) lc__law_names_3)) (toName 10) (gB (g2 (hBool notInB) (gName 10) (g2 hAdd (g2 hAdd (gName 4) (gName 5)) (gCall 0 m__law_own aNil)))) (gName 10))
theorem lc__law_names_4_eq : lc__law_names_4 = (gLc [10] (iAny (g2 hAdd (gLst (aCons (gName 7) aNil)) lc__law_names_3)) (toName 10) (gB (g2 (hBool notInB) (gName 10) (g2 hAdd (g2 hAdd (gName 4) (gName 5)) (gCall 0 m__law_own aNil)))) (gName 10)) := sld_eq _
noncomputable def fb__law_names_5 : SF := sld ((sSeq (sSet 7 (gC (.str "")))
    (sSeq fo__law_names_2
    (sSeq (sSet 9 lc__law_names_4)
    (sExp (gMeth "list" mAppend (gName 5) (aCons (g2 hIx (gName 9) (gC (.int 0))) aNil)))))))
theorem fb__law_names_5_eq : fb__law_names_5 = ((sSeq (sSet 7 (gC (.str "")))
    (sSeq fo__law_names_2
    (sSeq (sSet 9 lc__law_names_4)
    (sExp (gMeth "list" mAppend (gName 5) (aCons (g2 hIx (gName 9) (gC (.int 0))) aNil))))))) := sld_eq _
noncomputable def fo__law_names_6 : SF := sld (sFor (iRng1 (aCons (gName 1) aNil)) (toName 6) fb__law_names_5)
theorem fo__law_names_6_eq : fo__law_names_6 = (sFor (iRng1 (aCons (gName 1) aNil)) (toName 6) fb__law_names_5) := sld_eq _
noncomputable def m__law_names : DF := sld (bodyF 12 ((sSeq (sSet 2 (gC (.str "all apart back beside book case differ fill free halves in like lone lucky mark marks next none of ones open out place")))
    (sSeq (sSet 3 (gC (.str "put quit rests rule span steps sum sums take tie undo unlike web yes")))
    (sSeq (sParT [4, 5] (vCons (g2 hAdd (gMeth "str" (byD hSplit) (gName 2) (aCons (gC (.str " ")) aNil)) (gMeth "str" (byD hSplit) (gName 3) (aCons (gC (.str " ")) aNil))) (vCons (gLst aNil) vNil)))
    (sSeq fo__law_names_6
    (sRet (g1 hTuple (g1 hSorted (gName 5))))))))))
theorem m__law_names_eq : m__law_names = bodyF 12 ((sSeq (sSet 2 (gC (.str "all apart back beside book case differ fill free halves in like lone lucky mark marks next none of ones open out place")))
    (sSeq (sSet 3 (gC (.str "put quit rests rule span steps sum sums take tie undo unlike web yes")))
    (sSeq (sParT [4, 5] (vCons (g2 hAdd (gMeth "str" (byD hSplit) (gName 2) (aCons (gC (.str " ")) aNil)) (gMeth "str" (byD hSplit) (gName 3) (aCons (gC (.str " ")) aNil))) (vCons (gLst aNil) vNil)))
    (sSeq fo__law_names_6
    (sRet (g1 hTuple (g1 hSorted (gName 5))))))))) := sld_eq _
noncomputable def lc__law_web_1 : EF Vl := sld (gLc [6] (iRng1 (aCons (gName 5) aNil)) (toName 6) (gB (g2 (hBool ltB) (gCall 2 m__law_draw (aCons (gName 0) (aCons (gC (.int 6)) aNil))) (gName 3))) (gTup (aCons (g2 hIxA (gName 2) (gName 6)) (aCons (g2 hIxA (gName 2) (gName 5)) aNil))))
theorem lc__law_web_1_eq : lc__law_web_1 = (gLc [6] (iRng1 (aCons (gName 5) aNil)) (toName 6) (gB (g2 (hBool ltB) (gCall 2 m__law_draw (aCons (gName 0) (aCons (gC (.int 6)) aNil))) (gName 3))) (gTup (aCons (g2 hIxA (gName 2) (gName 6)) (aCons (g2 hIxA (gName 2) (gName 5)) aNil)))) := sld_eq _
noncomputable def fb__law_web_2 : SF := sld ((sSet 4 (g2 hAdd (gName 4) lc__law_web_1)))
theorem fb__law_web_2_eq : fb__law_web_2 = ((sSet 4 (g2 hAdd (gName 4) lc__law_web_1))) := sld_eq _
noncomputable def fo__law_web_3 : SF := sld (sFor (iRng1 (aCons (g1 hLen (gName 2)) aNil)) (toName 5) fb__law_web_2)
theorem fo__law_web_3_eq : fo__law_web_3 = (sFor (iRng1 (aCons (g1 hLen (gName 2)) aNil)) (toName 5) fb__law_web_2) := sld_eq _
noncomputable def m__law_web : DF := sld (bodyF 7 ((sSeq (sParT [2, 3, 4] (vCons (gCall 2 m__law_names (aCons (gName 0) (aCons (g2 hAdd (gC (.int 1)) (gCall 2 m__law_draw (aCons (gName 0) (aCons (gName 1) aNil)))) aNil))) (vCons (gCall 2 m__law_of (aCons (gName 0) (aCons (gTup (aCons (gC (.int 2)) (aCons (gC (.int 4)) (aCons (gC (.int 5)) aNil)))) aNil))) (vCons (gLst aNil) vNil))))
    (sSeq fo__law_web_3
    (sRet (gTup (aCons (gName 2) (aCons (g1 hTuple (g1 hSorted (gSl (gName 4) pNone (pSome (gC (.int 5)))))) aNil))))))))
theorem m__law_web_eq : m__law_web = bodyF 7 ((sSeq (sParT [2, 3, 4] (vCons (gCall 2 m__law_names (aCons (gName 0) (aCons (g2 hAdd (gC (.int 1)) (gCall 2 m__law_draw (aCons (gName 0) (aCons (gName 1) aNil)))) aNil))) (vCons (gCall 2 m__law_of (aCons (gName 0) (aCons (gTup (aCons (gC (.int 2)) (aCons (gC (.int 4)) (aCons (gC (.int 5)) aNil)))) aNil))) (vCons (gLst aNil) vNil))))
    (sSeq fo__law_web_3
    (sRet (gTup (aCons (gName 2) (aCons (g1 hTuple (g1 hSorted (gSl (gName 4) pNone (pSome (gC (.int 5)))))) aNil))))))) := sld_eq _
noncomputable def lc_is_word_1 : EF Vl := sld (gLc [1] (iAny (gName 0)) (toName 1) tYesB (g2 (hBool inB) (gName 1) (gC c_LETTERS)))
theorem lc_is_word_1_eq : lc_is_word_1 = (gLc [1] (iAny (gName 0)) (toName 1) tYesB (g2 (hBool inB) (gName 1) (gC c_LETTERS))) := sld_eq _
noncomputable def m_is_word : DF := sld (bodyF 2 ((sRet (gBV (gAnd (gB (g1 (hIsiT cls "str") (gName 0))) (gAnd (gB (g2 (hBool neB) (gName 0) (gC (.str "")))) (gB (g1 hAll lc_is_word_1))))))))
theorem m_is_word_eq : m_is_word = bodyF 2 ((sRet (gBV (gAnd (gB (g1 (hIsiT cls "str") (gName 0))) (gAnd (gB (g2 (hBool neB) (gName 0) (gC (.str "")))) (gB (g1 hAll lc_is_word_1))))))) := sld_eq _
noncomputable def m_is_name : DF := sld (bodyF 1 ((sRet (gBV (gAnd (gB (gCall 1 m_is_word (aCons (gName 0) aNil))) (gAnd (gB (g2 iLe (g1 hLen (gName 0)) (gC c_MOST_LETTERS))) (gB (g2 (hBool notInB) (gName 0) (gC c_WORDS)))))))))
theorem m_is_name_eq : m_is_name = bodyF 1 ((sRet (gBV (gAnd (gB (gCall 1 m_is_word (aCons (gName 0) aNil))) (gAnd (gB (g2 iLe (g1 hLen (gName 0)) (gC c_MOST_LETTERS))) (gB (g2 (hBool notInB) (gName 0) (gC c_WORDS)))))))) := sld_eq _
noncomputable def m_are_below : DF := sld (bodyF 2 ((sRet (gBV (gOr (gB (g2 (hBool eqB) (gName 0) (gTup aNil))) (gB (g2 (hBool ltB) (g2 hIx (gName 0) (g1 hNeg (gC (.int 1)))) (gName 1))))))))
theorem m_are_below_eq : m_are_below = bodyF 2 ((sRet (gBV (gOr (gB (g2 (hBool eqB) (gName 0) (gTup aNil))) (gB (g2 (hBool ltB) (g2 hIx (gName 0) (g1 hNeg (gC (.int 1)))) (gName 1))))))) := sld_eq _
noncomputable def lg_l0 : EF Vl := sld ((gBV (gAnd (gB (gCall 1 m_is_name (aCons (gName 1) aNil))) (gB (gCall 2 m_are_below (aCons (gName 0) (aCons (gName 1) aNil)))))))
theorem lg_l0_eq : lg_l0 = ((gBV (gAnd (gB (gCall 1 m_is_name (aCons (gName 1) aNil))) (gB (gCall 2 m_are_below (aCons (gName 0) (aCons (gName 1) aNil))))))) := sld_eq _
noncomputable def dp_l0 : D → Option DF
  | .clo 0 env => some (lamF 0 2 lg_l0 env)
  | _ => none
noncomputable def fb_wrong_in_l0_1 : SF := sld ((sIf (gOr (gB (g2 (hBool eqB) (gName 4) (gName 2))) (gNot (gB (gCallS 3 2 dp_l0 (aCons (gSl (gName 0) pNone (pSome (gName 4))) (aCons (gName 5) aNil)))))) (sRet (gLst (aCons (gName 4) aNil))) sNil))
theorem fb_wrong_in_l0_1_eq : fb_wrong_in_l0_1 = ((sIf (gOr (gB (g2 (hBool eqB) (gName 4) (gName 2))) (gNot (gB (gCallS 3 2 dp_l0 (aCons (gSl (gName 0) pNone (pSome (gName 4))) (aCons (gName 5) aNil)))))) (sRet (gLst (aCons (gName 4) aNil))) sNil)) := sld_eq _
noncomputable def fo_wrong_in_l0_2 : SF := sld (sFor (iEnm (aCons (gName 0) aNil)) (toTup 2 (toCons (toName 4) (toCons (toName 5) toNil))) fb_wrong_in_l0_1)
theorem fo_wrong_in_l0_2_eq : fo_wrong_in_l0_2 = (sFor (iEnm (aCons (gName 0) aNil)) (toTup 2 (toCons (toName 4) (toCons (toName 5) toNil))) fb_wrong_in_l0_1) := sld_eq _
noncomputable def m_wrong_in_l0 : DF := sld (bodyF 6 ((sSeq (sIf (gOr (gNot (gB (g1 (hIsiT cls "tuple") (gName 0)))) (gB (g2 (hBool ltB) (g1 hLen (gName 0)) (gName 1)))) (sRet (gLst (aCons (gC .non) aNil))) sNil)
    (sSeq fo_wrong_in_l0_2
    (sRet (gLst aNil))))))
theorem m_wrong_in_l0_eq : m_wrong_in_l0 = bodyF 6 ((sSeq (sIf (gOr (gNot (gB (g1 (hIsiT cls "tuple") (gName 0)))) (gB (g2 (hBool ltB) (g1 hLen (gName 0)) (gName 1)))) (sRet (gLst (aCons (gC .non) aNil))) sNil)
    (sSeq fo_wrong_in_l0_2
    (sRet (gLst aNil))))) := sld_eq _
noncomputable def m_wrong_in_places : DF := sld (bodyF 1 ((sRet (gCallM 4 m_wrong_in_l0 0 [] (aCons (gName 0) (aCons (gC (.int 1)) (aCons (gC c_MOST_PLACES) aLam)))))))
theorem m_wrong_in_places_eq : m_wrong_in_places = bodyF 1 ((sRet (gCallM 4 m_wrong_in_l0 0 [] (aCons (gName 0) (aCons (gC (.int 1)) (aCons (gC c_MOST_PLACES) aLam)))))) := sld_eq _
noncomputable def fb_Web___init___1 : SF := sld (sNever)
theorem fb_Web___init___1_eq : fb_Web___init___1 = (sNever) := sld_eq _
noncomputable def fo_Web___init___2 : SF := sld (sFor (iAny (gCall 1 m_wrong_in_places (aCons (gName 1) aNil))) (toName 3) fb_Web___init___1)
theorem fo_Web___init___2_eq : fo_Web___init___2 = (sFor (iAny (gCall 1 m_wrong_in_places (aCons (gName 1) aNil))) (toName 3) fb_Web___init___1) := sld_eq _
noncomputable def m_is_tuple_of : DF := sld (bodyF 2 ((sRet (gBV (gAnd (gB (g1 (hIsiT cls "tuple") (gName 0))) (gB (g2 (hBool eqB) (g1 hLen (gName 0)) (gName 1))))))))
theorem m_is_tuple_of_eq : m_is_tuple_of = bodyF 2 ((sRet (gBV (gAnd (gB (g1 (hIsiT cls "tuple") (gName 0))) (gB (g2 (hBool eqB) (g1 hLen (gName 0)) (gName 1))))))) := sld_eq _
noncomputable def m_is_pair : DF := sld (bodyF 1 ((sRet (gCall 2 m_is_tuple_of (aCons (gName 0) (aCons (gC (.int 2)) aNil))))))
theorem m_is_pair_eq : m_is_pair = bodyF 1 ((sRet (gCall 2 m_is_tuple_of (aCons (gName 0) (aCons (gC (.int 2)) aNil))))) := sld_eq _
noncomputable def m_is_one_of : DF := sld (bodyF 2 ((sRet (gBV (gAnd (gB (g1 (hIsiT cls "str") (gName 0))) (gB (g2 (hBool inB) (gName 0) (gName 1))))))))
theorem m_is_one_of_eq : m_is_one_of = bodyF 2 ((sRet (gBV (gAnd (gB (g1 (hIsiT cls "str") (gName 0))) (gB (g2 (hBool inB) (gName 0) (gName 1))))))) := sld_eq _
noncomputable def m_is_tie : DF := sld (bodyF 2 ((sRet (gBV (gAnd (gB (gCall 1 m_is_pair (aCons (gName 1) aNil))) (gAnd (gB (gCall 2 m_is_one_of (aCons (g2 hIx (gName 1) (gC (.int 0))) (aCons (gName 0) aNil)))) (gAnd (gB (gCall 2 m_is_one_of (aCons (g2 hIx (gName 1) (gC (.int 1))) (aCons (gName 0) aNil)))) (gB (g2 (hBool ltB) (g2 hIx (gName 1) (gC (.int 0))) (g2 hIx (gName 1) (gC (.int 1))))))))))))
theorem m_is_tie_eq : m_is_tie = bodyF 2 ((sRet (gBV (gAnd (gB (gCall 1 m_is_pair (aCons (gName 1) aNil))) (gAnd (gB (gCall 2 m_is_one_of (aCons (g2 hIx (gName 1) (gC (.int 0))) (aCons (gName 0) aNil)))) (gAnd (gB (gCall 2 m_is_one_of (aCons (g2 hIx (gName 1) (gC (.int 1))) (aCons (gName 0) aNil)))) (gB (g2 (hBool ltB) (g2 hIx (gName 1) (gC (.int 0))) (g2 hIx (gName 1) (gC (.int 1))))))))))) := sld_eq _
noncomputable def lg_l1 : EF Vl := sld ((gBV (gAnd (gB (gCall 2 m_is_tie (aCons (gName 2) (aCons (gName 1) aNil)))) (gB (gCall 2 m_are_below (aCons (gName 0) (aCons (gName 1) aNil)))))))
theorem lg_l1_eq : lg_l1 = ((gBV (gAnd (gB (gCall 2 m_is_tie (aCons (gName 2) (aCons (gName 1) aNil)))) (gB (gCall 2 m_are_below (aCons (gName 0) (aCons (gName 1) aNil))))))) := sld_eq _
noncomputable def dp_l1 : D → Option DF
  | .clo 1 env => some (lamF 1 3 lg_l1 env)
  | _ => none
noncomputable def fb_wrong_in_l1_1 : SF := sld ((sIf (gOr (gB (g2 (hBool eqB) (gName 4) (gName 2))) (gNot (gB (gCallS 3 2 dp_l1 (aCons (gSl (gName 0) pNone (pSome (gName 4))) (aCons (gName 5) aNil)))))) (sRet (gLst (aCons (gName 4) aNil))) sNil))
theorem fb_wrong_in_l1_1_eq : fb_wrong_in_l1_1 = ((sIf (gOr (gB (g2 (hBool eqB) (gName 4) (gName 2))) (gNot (gB (gCallS 3 2 dp_l1 (aCons (gSl (gName 0) pNone (pSome (gName 4))) (aCons (gName 5) aNil)))))) (sRet (gLst (aCons (gName 4) aNil))) sNil)) := sld_eq _
noncomputable def fo_wrong_in_l1_2 : SF := sld (sFor (iEnm (aCons (gName 0) aNil)) (toTup 2 (toCons (toName 4) (toCons (toName 5) toNil))) fb_wrong_in_l1_1)
theorem fo_wrong_in_l1_2_eq : fo_wrong_in_l1_2 = (sFor (iEnm (aCons (gName 0) aNil)) (toTup 2 (toCons (toName 4) (toCons (toName 5) toNil))) fb_wrong_in_l1_1) := sld_eq _
noncomputable def m_wrong_in_l1 : DF := sld (bodyF 6 ((sSeq (sIf (gOr (gNot (gB (g1 (hIsiT cls "tuple") (gName 0)))) (gB (g2 (hBool ltB) (g1 hLen (gName 0)) (gName 1)))) (sRet (gLst (aCons (gC .non) aNil))) sNil)
    (sSeq fo_wrong_in_l1_2
    (sRet (gLst aNil))))))
theorem m_wrong_in_l1_eq : m_wrong_in_l1 = bodyF 6 ((sSeq (sIf (gOr (gNot (gB (g1 (hIsiT cls "tuple") (gName 0)))) (gB (g2 (hBool ltB) (g1 hLen (gName 0)) (gName 1)))) (sRet (gLst (aCons (gC .non) aNil))) sNil)
    (sSeq fo_wrong_in_l1_2
    (sRet (gLst aNil))))) := sld_eq _
noncomputable def m_wrong_in_ties : DF := sld (bodyF 2 ((sRet (gCallM 4 m_wrong_in_l1 1 [0] (aCons (gName 1) (aCons (gC (.int 0)) (aCons (gC c_MOST_TIES) aLam)))))))
theorem m_wrong_in_ties_eq : m_wrong_in_ties = bodyF 2 ((sRet (gCallM 4 m_wrong_in_l1 1 [0] (aCons (gName 1) (aCons (gC (.int 0)) (aCons (gC c_MOST_TIES) aLam)))))) := sld_eq _
noncomputable def fb_Web___init___3 : SF := sld (sNever)
theorem fb_Web___init___3_eq : fb_Web___init___3 = (sNever) := sld_eq _
noncomputable def fo_Web___init___4 : SF := sld (sFor (iAny (gCall 2 m_wrong_in_ties (aCons (gName 1) (aCons (gName 2) aNil)))) (toName 3) fb_Web___init___3)
theorem fo_Web___init___4_eq : fo_Web___init___4 = (sFor (iAny (gCall 2 m_wrong_in_ties (aCons (gName 1) (aCons (gName 2) aNil)))) (toName 3) fb_Web___init___3) := sld_eq _
noncomputable def m_Web___init__ : DF := sld (bodyF 4 ((sSeq fo_Web___init___2
    (sSeq fo_Web___init___4
    (sFldS "Web" "all_told" (gTup (aCons (gName 1) (aCons (gName 2) aNil))) (gName 0))))))
theorem m_Web___init___eq : m_Web___init__ = bodyF 4 ((sSeq fo_Web___init___2
    (sSeq fo_Web___init___4
    (sFldS "Web" "all_told" (gTup (aCons (gName 1) (aCons (gName 2) aNil))) (gName 0))))) := sld_eq _
noncomputable def m__law_made : DF := sld (bodyF 1 ((sRet (gMake "Web" 3 m_Web___init__ (aCons (g2 hIx (gName 0) (gC (.int 0))) (aCons (g2 hIx (gName 0) (gC (.int 1))) aNil))))))
theorem m__law_made_eq : m__law_made = bodyF 1 ((sRet (gMake "Web" 3 m_Web___init__ (aCons (g2 hIx (gName 0) (gC (.int 0))) (aCons (g2 hIx (gName 0) (gC (.int 1))) aNil))))) := sld_eq _
noncomputable def m__law_size : DF := sld (bodyF 2 ((sSeq (sIf (gB (g2 (hBool eqB) (gName 1) (gC (.str "like")))) (sRet (g2 hAdd (g1 hLen (g2 hIx (gName 0) (gC (.int 0)))) (g1 hLen (g2 hIx (gName 0) (gC (.int 1)))))) sNil)
    (sRet (gIf (gB (g2 (hBool inB) (gName 1) (gTup (aCons (gC (.str "unlike")) (aCons (gC (.str "ones")) aNil))))) (g1 hLen (g2 hIx (gName 0) (gC (.int 1)))) (g1 hLen (g2 hIx (gName 0) (gC (.int 0)))))))))
theorem m__law_size_eq : m__law_size = bodyF 2 ((sSeq (sIf (gB (g2 (hBool eqB) (gName 1) (gC (.str "like")))) (sRet (g2 hAdd (g1 hLen (g2 hIx (gName 0) (gC (.int 0)))) (g1 hLen (g2 hIx (gName 0) (gC (.int 1)))))) sNil)
    (sRet (gIf (gB (g2 (hBool inB) (gName 1) (gTup (aCons (gC (.str "unlike")) (aCons (gC (.str "ones")) aNil))))) (g1 hLen (g2 hIx (gName 0) (gC (.int 1)))) (g1 hLen (g2 hIx (gName 0) (gC (.int 0)))))))) := sld_eq _
noncomputable def lc__law_right_1 : EF Vl := sld (gLc [6] (iRng1 (aCons (gName 3) aNil)) (toName 6) tYesB (gCall 2 m__law_of (aCons (gName 0) (aCons (gTup (aCons (gC .non) (aCons (gCall 2 m__law_draw (aCons (gName 0) (aCons (gC (.int 12)) aNil))) (aCons (gC (.int 0)) aNil)))) aNil))))
theorem lc__law_right_1_eq : lc__law_right_1 = (gLc [6] (iRng1 (aCons (gName 3) aNil)) (toName 6) tYesB (gCall 2 m__law_of (aCons (gName 0) (aCons (gTup (aCons (gC .non) (aCons (gCall 2 m__law_draw (aCons (gName 0) (aCons (gC (.int 12)) aNil))) (aCons (gC (.int 0)) aNil)))) aNil)))) := sld_eq _
noncomputable def lc__law_right_2 : EF Vl := sld (gLc [6] (iRng1 (aCons (gName 3) aNil)) (toName 6) tYesB (gCall 2 m__law_of (aCons (gName 0) (aCons (gTup (aCons (gC .non) (aCons (gCall 2 m__law_draw (aCons (gName 0) (aCons (gC (.int 12)) aNil))) (aCons (gC (.int 0)) aNil)))) aNil))))
theorem lc__law_right_2_eq : lc__law_right_2 = (gLc [6] (iRng1 (aCons (gName 3) aNil)) (toName 6) tYesB (gCall 2 m__law_of (aCons (gName 0) (aCons (gTup (aCons (gC .non) (aCons (gCall 2 m__law_draw (aCons (gName 0) (aCons (gC (.int 12)) aNil))) (aCons (gC (.int 0)) aNil)))) aNil)))) := sld_eq _
noncomputable def lc__law_text_1 : EF Vl := sld (gLc [4] (iAny (gName 2)) (toName 4) tYesB (gIf (gB (g1 hIsN (gName 4))) (gC (.str " open")) (g2 hAdd (gC (.str " ")) (g1 (h1 strD) (gName 4)))))
theorem lc__law_text_1_eq : lc__law_text_1 = (gLc [4] (iAny (gName 2)) (toName 4) tYesB (gIf (gB (g1 hIsN (gName 4))) (gC (.str " open")) (g2 hAdd (gC (.str " ")) (g1 (h1 strD) (gName 4))))) := sld_eq _
noncomputable def lc__law_text_2 : EF Vl := sld (gLc [8] (iRng1 (aCons (g1 hLen (g2 hIx (gName 0) (gC (.int 0)))) aNil)) (toName 8) tYesB (g2 hAdd (g2 hAdd (gC (.str "place ")) (g2 hIxA (g2 hIx (gName 0) (gC (.int 0))) (gName 8))) (g2 hIxA (gName 5) (gName 8))))
theorem lc__law_text_2_eq : lc__law_text_2 = (gLc [8] (iRng1 (aCons (g1 hLen (g2 hIx (gName 0) (gC (.int 0)))) aNil)) (toName 8) tYesB (g2 hAdd (g2 hAdd (gC (.str "place ")) (g2 hIxA (g2 hIx (gName 0) (gC (.int 0))) (gName 8))) (g2 hIxA (gName 5) (gName 8)))) := sld_eq _
noncomputable def lc__law_text_3 : EF Vl := sld (gLc [9] (iRng1 (aCons (g1 hLen (g2 hIx (gName 0) (gC (.int 1)))) aNil)) (toName 9) tYesB (g2 hAdd (g2 hAdd (g2 hAdd (g2 hAdd (gC (.str "tie ")) (g2 hIx (g2 hIxA (g2 hIx (gName 0) (gC (.int 1))) (gName 9)) (gC (.int 0)))) (gC (.str " "))) (g2 hIx (g2 hIxA (g2 hIx (gName 0) (gC (.int 1))) (gName 9)) (gC (.int 1)))) (g2 hIxA (gName 6) (gName 9))))
theorem lc__law_text_3_eq : lc__law_text_3 = (gLc [9] (iRng1 (aCons (g1 hLen (g2 hIx (gName 0) (gC (.int 1)))) aNil)) (toName 9) tYesB (g2 hAdd (g2 hAdd (g2 hAdd (g2 hAdd (gC (.str "tie ")) (g2 hIx (g2 hIxA (g2 hIx (gName 0) (gC (.int 1))) (gName 9)) (gC (.int 0)))) (gC (.str " "))) (g2 hIx (g2 hIxA (g2 hIx (gName 0) (gC (.int 1))) (gName 9)) (gC (.int 1)))) (g2 hIxA (gName 6) (gName 9)))) := sld_eq _
noncomputable def m__law_text : DF := sld (bodyF 10 ((sSeq (sSet 3 lc__law_text_1)
    (sSeq (sSet 5 (gFrz (gIf (gB (g2 (hBool notInB) (gName 1) (gTup (aCons (gC (.str "unlike")) (aCons (gC (.str "ones")) aNil))))) (gName 3) (g2 hMul (gLst (aCons (gC (.str "")) aNil)) (g1 hLen (g2 hIx (gName 0) (gC (.int 0))))))))
    (sSeq (sSet 6 (gFrz (gIf (gB (g2 (hBool eqB) (gName 1) (gC (.str "like")))) (gSl (gName 3) (pSome (g1 hLen (g2 hIx (gName 0) (gC (.int 0))))) pNone) (gIf (gB (g2 (hBool inB) (gName 1) (gTup (aCons (gC (.str "unlike")) (aCons (gC (.str "ones")) aNil))))) (gName 3) (g2 hMul (gLst (aCons (gC (.str "")) aNil)) (g1 hLen (g2 hIx (gName 0) (gC (.int 1)))))))))
    (sSeq (sSet 7 (g2 hAdd (gLst (aCons (g2 hAdd (gC (.str "rule ")) (gName 1)) aNil)) lc__law_text_2))
    (sRet (g1 hTuple (g2 hAdd (gName 7) lc__law_text_3)))))))))
theorem m__law_text_eq : m__law_text = bodyF 10 ((sSeq (sSet 3 lc__law_text_1)
    (sSeq (sSet 5 (gFrz (gIf (gB (g2 (hBool notInB) (gName 1) (gTup (aCons (gC (.str "unlike")) (aCons (gC (.str "ones")) aNil))))) (gName 3) (g2 hMul (gLst (aCons (gC (.str "")) aNil)) (g1 hLen (g2 hIx (gName 0) (gC (.int 0))))))))
    (sSeq (sSet 6 (gFrz (gIf (gB (g2 (hBool eqB) (gName 1) (gC (.str "like")))) (gSl (gName 3) (pSome (g1 hLen (g2 hIx (gName 0) (gC (.int 0))))) pNone) (gIf (gB (g2 (hBool inB) (gName 1) (gTup (aCons (gC (.str "unlike")) (aCons (gC (.str "ones")) aNil))))) (gName 3) (g2 hMul (gLst (aCons (gC (.str "")) aNil)) (g1 hLen (g2 hIx (gName 0) (gC (.int 1)))))))))
    (sSeq (sSet 7 (g2 hAdd (gLst (aCons (g2 hAdd (gC (.str "rule ")) (gName 1)) aNil)) lc__law_text_2))
    (sRet (g1 hTuple (g2 hAdd (gName 7) lc__law_text_3)))))))) := sld_eq _
noncomputable def m_words_of : DF := sld (bodyF 1 ((sRet (gIf (gB (g1 (hIsiT cls "str") (gName 0))) (g1 hTuple (gMeth "str" (byD hSplit) (gName 0) (aCons (gC (.str " ")) aNil))) (gTup (aCons (gC (.str "")) aNil))))))
theorem m_words_of_eq : m_words_of = bodyF 1 ((sRet (gIf (gB (g1 (hIsiT cls "str") (gName 0))) (g1 hTuple (gMeth "str" (byD hSplit) (gName 0) (aCons (gC (.str " ")) aNil))) (gTup (aCons (gC (.str "")) aNil))))) := sld_eq _
noncomputable def lc_wrong_in_lines_1 : EF Vl := sld (gLc [2] (iAny (gName 0)) (toName 2) tYesB (gCall 1 m_words_of (aCons (gName 2) aNil)))
theorem lc_wrong_in_lines_1_eq : lc_wrong_in_lines_1 = (gLc [2] (iAny (gName 0)) (toName 2) tYesB (gCall 1 m_words_of (aCons (gName 2) aNil))) := sld_eq _
noncomputable def m_is_rule_row : DF := sld (bodyF 1 ((sRet (gBV (gAnd (gB (g2 (hBool eqB) (g1 hLen (gName 0)) (gC (.int 2)))) (gAnd (gB (g2 (hBool eqB) (g2 hIx (gName 0) (gC (.int 0))) (gC c_RULE))) (gB (g2 (hBool inB) (g2 hIx (gName 0) (gC (.int 1))) (gC c_RULES)))))))))
theorem m_is_rule_row_eq : m_is_rule_row = bodyF 1 ((sRet (gBV (gAnd (gB (g2 (hBool eqB) (g1 hLen (gName 0)) (gC (.int 2)))) (gAnd (gB (g2 (hBool eqB) (g2 hIx (gName 0) (gC (.int 0))) (gC c_RULE))) (gB (g2 (hBool inB) (g2 hIx (gName 0) (gC (.int 1))) (gC c_RULES)))))))) := sld_eq _
noncomputable def m_marked_words : DF := sld (bodyF 1 ((sSeq (sIf (gB (g2 (hBool eqB) (gName 0) (gC c_LIKE))) (sRet (gTup (aCons (gC c_PLACE) (aCons (gC c_TIE) aNil)))) sNil)
    (sRet (gIf (gB (g2 (hBool inB) (gName 0) (gTup (aCons (gC c_UNLIKE) (aCons (gC c_ONES) aNil))))) (gTup (aCons (gC c_TIE) aNil)) (gTup (aCons (gC c_PLACE) aNil)))))))
theorem m_marked_words_eq : m_marked_words = bodyF 1 ((sSeq (sIf (gB (g2 (hBool eqB) (gName 0) (gC c_LIKE))) (sRet (gTup (aCons (gC c_PLACE) (aCons (gC c_TIE) aNil)))) sNil)
    (sRet (gIf (gB (g2 (hBool inB) (gName 0) (gTup (aCons (gC c_UNLIKE) (aCons (gC c_ONES) aNil))))) (gTup (aCons (gC c_TIE) aNil)) (gTup (aCons (gC c_PLACE) aNil)))))) := sld_eq _
noncomputable def lc_is_figures_1 : EF Vl := sld (gLc [1] (iAny (gName 0)) (toName 1) tYesB (g2 (hBool inB) (gName 1) (gC c_FIGURES)))
theorem lc_is_figures_1_eq : lc_is_figures_1 = (gLc [1] (iAny (gName 0)) (toName 1) tYesB (g2 (hBool inB) (gName 1) (gC c_FIGURES))) := sld_eq _
noncomputable def m_is_figures : DF := sld (bodyF 2 ((sSeq (sIf (gOr (gB (g2 (hBool eqB) (gName 0) (gC (.str "")))) (gOr (gB (g2 iGt (g1 hLen (gName 0)) (gC c_MOST_FIGURES))) (gNot (gB (g1 hAll lc_is_figures_1))))) (sRet (gC (.bl false))) sNil)
    (sRet (gBV (gOr (gB (g2 (hBool eqB) (gName 0) (gC (.str "0")))) (gB (g2 (hBool neB) (g2 hIx (gName 0) (gC (.int 0))) (gC (.str "0"))))))))))
theorem m_is_figures_eq : m_is_figures = bodyF 2 ((sSeq (sIf (gOr (gB (g2 (hBool eqB) (gName 0) (gC (.str "")))) (gOr (gB (g2 iGt (g1 hLen (gName 0)) (gC c_MOST_FIGURES))) (gNot (gB (g1 hAll lc_is_figures_1))))) (sRet (gC (.bl false))) sNil)
    (sRet (gBV (gOr (gB (g2 (hBool eqB) (gName 0) (gC (.str "0")))) (gB (g2 (hBool neB) (g2 hIx (gName 0) (gC (.int 0))) (gC (.str "0"))))))))) := sld_eq _
noncomputable def lc_is_row_1 : EF Vl := sld (gLc [3] (iAny (gSl (gName 1) (pSome (gC (.int 1))) (pSome (gName 2)))) (toName 3) tYesB (gCall 1 m_is_word (aCons (gName 3) aNil)))
theorem lc_is_row_1_eq : lc_is_row_1 = (gLc [3] (iAny (gSl (gName 1) (pSome (gC (.int 1))) (pSome (gName 2)))) (toName 3) tYesB (gCall 1 m_is_word (aCons (gName 3) aNil))) := sld_eq _
noncomputable def m_is_row : DF := sld (bodyF 4 ((sSeq (sIf (gB (g1 (h1 (kdNin d_NAMES)) (g2 hIx (gName 1) (gC (.int 0))))) (sRet (gC (.bl false))) sNil)
    (sSeq (sSet 2 (g2 hAdd (gC (.int 1)) (g1 (h1 (kdGet d_NAMES)) (g2 hIx (gName 1) (gC (.int 0))))))
    (sSeq (sIf (gB (g2 (hBool inB) (g2 hIx (gName 1) (gC (.int 0))) (gCall 1 m_marked_words (aCons (gName 0) aNil)))) (sIf (gOr (gB (g2 (hBool neB) (g1 hLen (gName 1)) (g2 hAdd (gName 2) (gC (.int 1))))) (gNot (gOr (gB (g2 (hBool eqB) (g2 hIx (gName 1) (g1 hNeg (gC (.int 1)))) (gC c_OPEN))) (gB (gCall 1 m_is_figures (aCons (g2 hIx (gName 1) (g1 hNeg (gC (.int 1)))) aNil)))))) (sRet (gC (.bl false))) sNil) (sIf (gB (g2 (hBool neB) (g1 hLen (gName 1)) (gName 2))) (sRet (gC (.bl false))) sNil))
    (sRet (g1 hAll lc_is_row_1)))))))
theorem m_is_row_eq : m_is_row = bodyF 4 ((sSeq (sIf (gB (g1 (h1 (kdNin d_NAMES)) (g2 hIx (gName 1) (gC (.int 0))))) (sRet (gC (.bl false))) sNil)
    (sSeq (sSet 2 (g2 hAdd (gC (.int 1)) (g1 (h1 (kdGet d_NAMES)) (g2 hIx (gName 1) (gC (.int 0))))))
    (sSeq (sIf (gB (g2 (hBool inB) (g2 hIx (gName 1) (gC (.int 0))) (gCall 1 m_marked_words (aCons (gName 0) aNil)))) (sIf (gOr (gB (g2 (hBool neB) (g1 hLen (gName 1)) (g2 hAdd (gName 2) (gC (.int 1))))) (gNot (gOr (gB (g2 (hBool eqB) (g2 hIx (gName 1) (g1 hNeg (gC (.int 1)))) (gC c_OPEN))) (gB (gCall 1 m_is_figures (aCons (g2 hIx (gName 1) (g1 hNeg (gC (.int 1)))) aNil)))))) (sRet (gC (.bl false))) sNil) (sIf (gB (g2 (hBool neB) (g1 hLen (gName 1)) (gName 2))) (sRet (gC (.bl false))) sNil))
    (sRet (g1 hAll lc_is_row_1)))))) := sld_eq _
noncomputable def fb_wrong_in_lines_2 : SF := sld ((sSeq (sIf (gOr (gNot (gB (gCall 2 m_is_row (aCons (g2 hIx (g2 hIx (gName 1) (gC (.int 0))) (gC (.int 1))) (aCons (gName 5) aNil))))) (gB (g2 (hBool ltB) (gTix t_ORDER (aCons (g2 hIx (gName 5) (gC (.int 0))) aNil)) (gTix t_ORDER (aCons (gName 3) aNil))))) (sRet (gLst (aCons (g2 hAdd (gName 4) (gC (.int 1))) aNil))) sNil)
    (sSet 3 (g2 hIx (gName 5) (gC (.int 0))))))
theorem fb_wrong_in_lines_2_eq : fb_wrong_in_lines_2 = ((sSeq (sIf (gOr (gNot (gB (gCall 2 m_is_row (aCons (g2 hIx (g2 hIx (gName 1) (gC (.int 0))) (gC (.int 1))) (aCons (gName 5) aNil))))) (gB (g2 (hBool ltB) (gTix t_ORDER (aCons (g2 hIx (gName 5) (gC (.int 0))) aNil)) (gTix t_ORDER (aCons (gName 3) aNil))))) (sRet (gLst (aCons (g2 hAdd (gName 4) (gC (.int 1))) aNil))) sNil)
    (sSet 3 (g2 hIx (gName 5) (gC (.int 0)))))) := sld_eq _
noncomputable def fo_wrong_in_lines_3 : SF := sld (sFor (iEnm (aCons (gSl (gName 1) (pSome (gC (.int 1))) pNone) aNil)) (toTup 2 (toCons (toName 4) (toCons (toName 5) toNil))) fb_wrong_in_lines_2)
theorem fo_wrong_in_lines_3_eq : fo_wrong_in_lines_3 = (sFor (iEnm (aCons (gSl (gName 1) (pSome (gC (.int 1))) pNone) aNil)) (toTup 2 (toCons (toName 4) (toCons (toName 5) toNil))) fb_wrong_in_lines_2) := sld_eq _
noncomputable def m_wrong_in_lines : DF := sld (bodyF 6 ((sSeq (sIf (gOr (gNot (gB (g1 (hIsiT cls "tuple") (gName 0)))) (gB (g2 (hBool eqB) (gName 0) (gTup aNil)))) (sRet (gLst (aCons (gC .non) aNil))) sNil)
    (sSeq (sSet 1 lc_wrong_in_lines_1)
    (sSeq (sIf (gNot (gB (gCall 1 m_is_rule_row (aCons (g2 hIx (gName 1) (gC (.int 0))) aNil)))) (sRet (gLst (aCons (gC (.int 0)) aNil))) sNil)
    (sSeq (sSet 3 (gC c_PLACE))
    (sSeq fo_wrong_in_lines_3
    (sRet (gLst aNil)))))))))
theorem m_wrong_in_lines_eq : m_wrong_in_lines = bodyF 6 ((sSeq (sIf (gOr (gNot (gB (g1 (hIsiT cls "tuple") (gName 0)))) (gB (g2 (hBool eqB) (gName 0) (gTup aNil)))) (sRet (gLst (aCons (gC .non) aNil))) sNil)
    (sSeq (sSet 1 lc_wrong_in_lines_1)
    (sSeq (sIf (gNot (gB (gCall 1 m_is_rule_row (aCons (g2 hIx (gName 1) (gC (.int 0))) aNil)))) (sRet (gLst (aCons (gC (.int 0)) aNil))) sNil)
    (sSeq (sSet 3 (gC c_PLACE))
    (sSeq fo_wrong_in_lines_3
    (sRet (gLst aNil)))))))) := sld_eq _
noncomputable def fb_read_marks_1 : SF := sld (sNever)
theorem fb_read_marks_1_eq : fb_read_marks_1 = (sNever) := sld_eq _
noncomputable def fo_read_marks_2 : SF := sld (sFor (iAny (gCall 1 m_wrong_in_lines (aCons (gName 0) aNil))) (toName 1) fb_read_marks_1)
theorem fo_read_marks_2_eq : fo_read_marks_2 = (sFor (iAny (gCall 1 m_wrong_in_lines (aCons (gName 0) aNil))) (toName 1) fb_read_marks_1) := sld_eq _
noncomputable def lc_told_by_1 : EF Vl := sld (gLc [2] (iAny (gName 0)) (toName 2) tYesB (gCall 1 m_words_of (aCons (gName 2) aNil)))
theorem lc_told_by_1_eq : lc_told_by_1 = (gLc [2] (iAny (gName 0)) (toName 2) tYesB (gCall 1 m_words_of (aCons (gName 2) aNil))) := sld_eq _
noncomputable def lc_told_by_2 : EF Vl := sld (gLc [5] (iAny (gSl (gName 1) (pSome (gC (.int 1))) pNone)) (toName 5) (gB (g2 (hBool eqB) (g2 hIx (gName 5) (gC (.int 0))) (gC c_PLACE))) (g2 hIx (gName 5) (gC (.int 1))))
theorem lc_told_by_2_eq : lc_told_by_2 = (gLc [5] (iAny (gSl (gName 1) (pSome (gC (.int 1))) pNone)) (toName 5) (gB (g2 (hBool eqB) (g2 hIx (gName 5) (gC (.int 0))) (gC c_PLACE))) (g2 hIx (gName 5) (gC (.int 1)))) := sld_eq _
noncomputable def lc_told_by_3 : EF Vl := sld (gLc [5] (iAny (gSl (gName 1) (pSome (gC (.int 1))) pNone)) (toName 5) (gB (g2 (hBool eqB) (g2 hIx (gName 5) (gC (.int 0))) (gC c_TIE))) (gSl (gName 5) (pSome (gC (.int 1))) (pSome (gC (.int 3)))))
theorem lc_told_by_3_eq : lc_told_by_3 = (gLc [5] (iAny (gSl (gName 1) (pSome (gC (.int 1))) pNone)) (toName 5) (gB (g2 (hBool eqB) (g2 hIx (gName 5) (gC (.int 0))) (gC c_TIE))) (gSl (gName 5) (pSome (gC (.int 1))) (pSome (gC (.int 3))))) := sld_eq _
noncomputable def m_mark_in : DF := sld (bodyF 1 ((sRet (gIf (gB (g2 (hBool eqB) (g2 hIx (gName 0) (g1 hNeg (gC (.int 1)))) (gC c_OPEN))) (gC .non) (g1 (h1 intD) (g2 hIx (gName 0) (g1 hNeg (gC (.int 1)))))))))
theorem m_mark_in_eq : m_mark_in = bodyF 1 ((sRet (gIf (gB (g2 (hBool eqB) (g2 hIx (gName 0) (g1 hNeg (gC (.int 1)))) (gC c_OPEN))) (gC .non) (g1 (h1 intD) (g2 hIx (gName 0) (g1 hNeg (gC (.int 1)))))))) := sld_eq _
noncomputable def lc_told_by_4 : EF Vl := sld (gLc [5] (iAny (gSl (gName 1) (pSome (gC (.int 1))) pNone)) (toName 5) (gB (g2 (hBool inB) (g2 hIx (gName 5) (gC (.int 0))) (gCall 1 m_marked_words (aCons (gName 3) aNil)))) (gCall 1 m_mark_in (aCons (gName 5) aNil)))
theorem lc_told_by_4_eq : lc_told_by_4 = (gLc [5] (iAny (gSl (gName 1) (pSome (gC (.int 1))) pNone)) (toName 5) (gB (g2 (hBool inB) (g2 hIx (gName 5) (gC (.int 0))) (gCall 1 m_marked_words (aCons (gName 3) aNil)))) (gCall 1 m_mark_in (aCons (gName 5) aNil))) := sld_eq _
noncomputable def m_told_by : DF := sld (bodyF 7 ((sSeq (sSet 1 lc_told_by_1)
    (sSeq (sSet 3 (g2 hIx (g2 hIx (gName 1) (gC (.int 0))) (gC (.int 1))))
    (sSeq (sSet 4 (g1 hTuple lc_told_by_2))
    (sSeq (sSet 6 (g1 hTuple lc_told_by_3))
    (sRet (gTup (aCons (gName 3) (aCons (gName 4) (aCons (gName 6) (aCons (g1 hTuple lc_told_by_4) aNil))))))))))))
theorem m_told_by_eq : m_told_by = bodyF 7 ((sSeq (sSet 1 lc_told_by_1)
    (sSeq (sSet 3 (g2 hIx (g2 hIx (gName 1) (gC (.int 0))) (gC (.int 1))))
    (sSeq (sSet 4 (g1 hTuple lc_told_by_2))
    (sSeq (sSet 6 (g1 hTuple lc_told_by_3))
    (sRet (gTup (aCons (gName 3) (aCons (gName 4) (aCons (gName 6) (aCons (g1 hTuple lc_told_by_4) aNil))))))))))) := sld_eq _
noncomputable def m_check_web : DF := sld (bodyF 1 ((sIf (gNot (gB (g1 (hIsiC cls "Web") (gName 0)))) sNever sNil)))
theorem m_check_web_eq : m_check_web = bodyF 1 ((sIf (gNot (gB (g1 (hIsiC cls "Web") (gName 0)))) sNever sNil)) := sld_eq _
noncomputable def m_Web_places : DF := sld (bodyF 1 ((sRet (g2 hIx (g1 (hFld "Web" "all_told") (gName 0)) (gC (.int 0))))))
theorem m_Web_places_eq : m_Web_places = bodyF 1 ((sRet (g2 hIx (g1 (hFld "Web" "all_told") (gName 0)) (gC (.int 0))))) := sld_eq _
noncomputable def m_Web_ties : DF := sld (bodyF 1 ((sRet (g2 hIx (g1 (hFld "Web" "all_told") (gName 0)) (gC (.int 1))))))
theorem m_Web_ties_eq : m_Web_ties = bodyF 1 ((sRet (g2 hIx (g1 (hFld "Web" "all_told") (gName 0)) (gC (.int 1))))) := sld_eq _
noncomputable def m_size_by : DF := sld (bodyF 2 ((sSeq (sIf (gB (g2 (hBool eqB) (gName 1) (gC c_LIKE))) (sRet (g2 hAdd (g1 hLen (gProp "Web" m_Web_places (gName 0))) (g1 hLen (gProp "Web" m_Web_ties (gName 0))))) sNil)
    (sRet (gIf (gB (g2 (hBool inB) (gName 1) (gTup (aCons (gC c_UNLIKE) (aCons (gC c_ONES) aNil))))) (g1 hLen (gProp "Web" m_Web_ties (gName 0))) (g1 hLen (gProp "Web" m_Web_places (gName 0))))))))
theorem m_size_by_eq : m_size_by = bodyF 2 ((sSeq (sIf (gB (g2 (hBool eqB) (gName 1) (gC c_LIKE))) (sRet (g2 hAdd (g1 hLen (gProp "Web" m_Web_places (gName 0))) (g1 hLen (gProp "Web" m_Web_ties (gName 0))))) sNil)
    (sRet (gIf (gB (g2 (hBool inB) (gName 1) (gTup (aCons (gC c_UNLIKE) (aCons (gC c_ONES) aNil))))) (g1 hLen (gProp "Web" m_Web_ties (gName 0))) (g1 hLen (gProp "Web" m_Web_places (gName 0))))))) := sld_eq _
noncomputable def m_check_rule : DF := sld (bodyF 3 ((sSeq (sExp (gCall 1 m_check_web (aCons (gName 0) aNil)))
    (sSeq (sIf (gNot (gB (gCall 2 m_is_one_of (aCons (gName 1) (aCons (gC c_RULES) aNil))))) sNever sNil)
    (sSeq (sSet 2 (gIf (gB (g2 (hBool eqB) (gName 1) (gC c_LIKE))) (gC c_MOST_LIKE) (gC c_MOST_UNLIKE)))
    (sIf (gAnd (gB (g2 (hBool inB) (gName 1) (gTup (aCons (gC c_LIKE) (aCons (gC c_UNLIKE) aNil))))) (gB (g2 iGt (gCall 2 m_size_by (aCons (gName 0) (aCons (gName 1) aNil))) (gName 2)))) sNever sNil))))))
theorem m_check_rule_eq : m_check_rule = bodyF 3 ((sSeq (sExp (gCall 1 m_check_web (aCons (gName 0) aNil)))
    (sSeq (sIf (gNot (gB (gCall 2 m_is_one_of (aCons (gName 1) (aCons (gC c_RULES) aNil))))) sNever sNil)
    (sSeq (sSet 2 (gIf (gB (g2 (hBool eqB) (gName 1) (gC c_LIKE))) (gC c_MOST_LIKE) (gC c_MOST_UNLIKE)))
    (sIf (gAnd (gB (g2 (hBool inB) (gName 1) (gTup (aCons (gC c_LIKE) (aCons (gC c_UNLIKE) aNil))))) (gB (g2 iGt (gCall 2 m_size_by (aCons (gName 0) (aCons (gName 1) aNil))) (gName 2)))) sNever sNil))))) := sld_eq _
noncomputable def m_read_marks : DF := sld (bodyF 7 ((sSeq fo_read_marks_2
    (sSeq (sAsg (toTup 4 (toCons (toName 2) (toCons (toName 3) (toCons (toName 4) (toCons (toName 5) toNil))))) (gCall 1 m_told_by (aCons (gName 0) aNil)))
    (sSeq (sSet 6 (gMake "Web" 3 m_Web___init__ (aCons (gName 3) (aCons (gName 4) aNil))))
    (sSeq (sExp (gCall 2 m_check_rule (aCons (gName 6) (aCons (gName 2) aNil))))
    (sRet (gTup (aCons (gName 6) (aCons (gName 2) (aCons (gName 5) aNil)))))))))))
theorem m_read_marks_eq : m_read_marks = bodyF 7 ((sSeq fo_read_marks_2
    (sSeq (sAsg (toTup 4 (toCons (toName 2) (toCons (toName 3) (toCons (toName 4) (toCons (toName 5) toNil))))) (gCall 1 m_told_by (aCons (gName 0) aNil)))
    (sSeq (sSet 6 (gMake "Web" 3 m_Web___init__ (aCons (gName 3) (aCons (gName 4) aNil))))
    (sSeq (sExp (gCall 2 m_check_rule (aCons (gName 6) (aCons (gName 2) aNil))))
    (sRet (gTup (aCons (gName 6) (aCons (gName 2) (aCons (gName 5) aNil)))))))))) := sld_eq _
noncomputable def lc__law_same_1 (r : DF) : EF Vl := sld (gLc [2] (iRng1 (aCons (g1 hLen (gName 1)) aNil)) (toName 2) tYesB (gCall 2 r (aCons (g2 hIxA (gName 0) (gName 2)) (aCons (g2 hIxA (gName 1) (gName 2)) aNil))))
theorem lc__law_same_1_eq (r : DF) : lc__law_same_1 r = (gLc [2] (iRng1 (aCons (g1 hLen (gName 1)) aNil)) (toName 2) tYesB (gCall 2 r (aCons (g2 hIxA (gName 0) (gName 2)) (aCons (g2 hIxA (gName 1) (gName 2)) aNil)))) := sld_eq _
noncomputable def b__law_same (r : DF) : DF := sld (bodyF 3 ((sSeq (sIf (gB (g1 (hIsiT cls "tuple") (gName 1))) (sSeq (sIf (gOr (gNot (gB (g1 (hIsiT cls "tuple") (gName 0)))) (gB (g2 (hBool neB) (g1 hLen (gName 0)) (g1 hLen (gName 1))))) (sRet (gC (.bl false))) sNil)
    (sRet (g1 hAll (lc__law_same_1 r)))) sNil)
    (sSeq (sIf (gB (g1 hIsN (gName 1))) (sRet (g1 hIsN (gName 0))) sNil)
    (sSeq (sIf (gB (g1 (hIsiT cls "bool") (gName 1))) (sRet (gBV (gAnd (gB (g1 (hIsiT cls "bool") (gName 0))) (gB (g2 (hBool eqB) (gName 0) (gName 1)))))) sNil)
    (sSeq (sIf (gB (g1 (hIsiT cls "int") (gName 1))) (sRet (gBV (gAnd (gB (g1 (hIsiT cls "int") (gName 0))) (gAnd (gB (gBV (gNot (gB (g1 (hIsiT cls "bool") (gName 0)))))) (gB (g2 (hBool eqB) (gName 0) (gName 1))))))) sNil)
    (sSeq (sIf (gB (g1 (hIsiT cls "str") (gName 1))) (sRet (gBV (gAnd (gB (g1 (hIsiT cls "str") (gName 0))) (gB (g2 (hBool eqB) (gName 0) (gName 1)))))) sNil)
    (sRet (g2 (hBool eqB) (gName 0) (gName 1))))))))))
theorem b__law_same_eq (r : DF) : b__law_same r = bodyF 3 ((sSeq (sIf (gB (g1 (hIsiT cls "tuple") (gName 1))) (sSeq (sIf (gOr (gNot (gB (g1 (hIsiT cls "tuple") (gName 0)))) (gB (g2 (hBool neB) (g1 hLen (gName 0)) (g1 hLen (gName 1))))) (sRet (gC (.bl false))) sNil)
    (sRet (g1 hAll (lc__law_same_1 r)))) sNil)
    (sSeq (sIf (gB (g1 hIsN (gName 1))) (sRet (g1 hIsN (gName 0))) sNil)
    (sSeq (sIf (gB (g1 (hIsiT cls "bool") (gName 1))) (sRet (gBV (gAnd (gB (g1 (hIsiT cls "bool") (gName 0))) (gB (g2 (hBool eqB) (gName 0) (gName 1)))))) sNil)
    (sSeq (sIf (gB (g1 (hIsiT cls "int") (gName 1))) (sRet (gBV (gAnd (gB (g1 (hIsiT cls "int") (gName 0))) (gAnd (gB (gBV (gNot (gB (g1 (hIsiT cls "bool") (gName 0)))))) (gB (g2 (hBool eqB) (gName 0) (gName 1))))))) sNil)
    (sSeq (sIf (gB (g1 (hIsiT cls "str") (gName 1))) (sRet (gBV (gAnd (gB (g1 (hIsiT cls "str") (gName 0))) (gB (g2 (hBool eqB) (gName 0) (gName 1)))))) sNil)
    (sRet (g2 (hBool eqB) (gName 0) (gName 1))))))))) := sld_eq _
noncomputable def m__law_same : Nat → DF
  | 0 => fun _ _ => .no
  | n + 1 => b__law_same (m__law_same n)
theorem m__law_same_eq (n : Nat) : m__law_same (n + 1) = bodyF 3 ((sSeq (sIf (gB (g1 (hIsiT cls "tuple") (gName 1))) (sSeq (sIf (gOr (gNot (gB (g1 (hIsiT cls "tuple") (gName 0)))) (gB (g2 (hBool neB) (g1 hLen (gName 0)) (g1 hLen (gName 1))))) (sRet (gC (.bl false))) sNil)
    (sRet (g1 hAll (lc__law_same_1 (m__law_same n))))) sNil)
    (sSeq (sIf (gB (g1 hIsN (gName 1))) (sRet (g1 hIsN (gName 0))) sNil)
    (sSeq (sIf (gB (g1 (hIsiT cls "bool") (gName 1))) (sRet (gBV (gAnd (gB (g1 (hIsiT cls "bool") (gName 0))) (gB (g2 (hBool eqB) (gName 0) (gName 1)))))) sNil)
    (sSeq (sIf (gB (g1 (hIsiT cls "int") (gName 1))) (sRet (gBV (gAnd (gB (g1 (hIsiT cls "int") (gName 0))) (gAnd (gB (gBV (gNot (gB (g1 (hIsiT cls "bool") (gName 0)))))) (gB (g2 (hBool eqB) (gName 0) (gName 1))))))) sNil)
    (sSeq (sIf (gB (g1 (hIsiT cls "str") (gName 1))) (sRet (gBV (gAnd (gB (g1 (hIsiT cls "str") (gName 0))) (gB (g2 (hBool eqB) (gName 0) (gName 1)))))) sNil)
    (sRet (g2 (hBool eqB) (gName 0) (gName 1))))))))) := b__law_same_eq _
noncomputable def m_is_whole : DF := sld (bodyF 1 ((sRet (gBV (gAnd (gB (g1 (hIsiT cls "int") (gName 0))) (gB (gBV (gNot (gB (g1 (hIsiT cls "bool") (gName 0)))))))))))
theorem m_is_whole_eq : m_is_whole = bodyF 1 ((sRet (gBV (gAnd (gB (g1 (hIsiT cls "int") (gName 0))) (gB (gBV (gNot (gB (g1 (hIsiT cls "bool") (gName 0)))))))))) := sld_eq _
noncomputable def m_is_number : DF := sld (bodyF 1 ((sRet (gBV (gAnd (gB (gCall 1 m_is_whole (aCons (gName 0) aNil))) (gB (g2 iGe (gName 0) (gC (.int 0)))))))))
theorem m_is_number_eq : m_is_number = bodyF 1 ((sRet (gBV (gAnd (gB (gCall 1 m_is_whole (aCons (gName 0) aNil))) (gB (g2 iGe (gName 0) (gC (.int 0)))))))) := sld_eq _
noncomputable def lg_l2 : EF Vl := sld ((gBV (gOr (gB (g1 hIsN (gName 0))) (gB (gCall 1 m_is_number (aCons (gName 0) aNil))))))
theorem lg_l2_eq : lg_l2 = ((gBV (gOr (gB (g1 hIsN (gName 0))) (gB (gCall 1 m_is_number (aCons (gName 0) aNil)))))) := sld_eq _
noncomputable def dp_l2 : D → Option DF
  | .clo 2 env => some (lamF 2 1 lg_l2 env)
  | _ => none
noncomputable def lg_l3_l2 : EF Vl := sld ((gCallS 2 1 dp_l2 (aCons (gName 1) aNil)))
theorem lg_l3_l2_eq : lg_l3_l2 = ((gCallS 2 1 dp_l2 (aCons (gName 1) aNil))) := sld_eq _
noncomputable def dp_l3_l2 : D → Option DF
  | .clo 3 env => some (lamF 3 3 lg_l3_l2 env)
  | _ => none
noncomputable def fb_wrong_in_l3_l2_1 : SF := sld ((sIf (gOr (gB (g2 (hBool eqB) (gName 4) (gName 2))) (gNot (gB (gCallS 3 2 dp_l3_l2 (aCons (gSl (gName 0) pNone (pSome (gName 4))) (aCons (gName 5) aNil)))))) (sRet (gLst (aCons (gName 4) aNil))) sNil))
theorem fb_wrong_in_l3_l2_1_eq : fb_wrong_in_l3_l2_1 = ((sIf (gOr (gB (g2 (hBool eqB) (gName 4) (gName 2))) (gNot (gB (gCallS 3 2 dp_l3_l2 (aCons (gSl (gName 0) pNone (pSome (gName 4))) (aCons (gName 5) aNil)))))) (sRet (gLst (aCons (gName 4) aNil))) sNil)) := sld_eq _
noncomputable def fo_wrong_in_l3_l2_2 : SF := sld (sFor (iEnm (aCons (gName 0) aNil)) (toTup 2 (toCons (toName 4) (toCons (toName 5) toNil))) fb_wrong_in_l3_l2_1)
theorem fo_wrong_in_l3_l2_2_eq : fo_wrong_in_l3_l2_2 = (sFor (iEnm (aCons (gName 0) aNil)) (toTup 2 (toCons (toName 4) (toCons (toName 5) toNil))) fb_wrong_in_l3_l2_1) := sld_eq _
noncomputable def m_wrong_in_l3_l2 : DF := sld (bodyF 6 ((sSeq (sIf (gOr (gNot (gB (g1 (hIsiT cls "tuple") (gName 0)))) (gB (g2 (hBool ltB) (g1 hLen (gName 0)) (gName 1)))) (sRet (gLst (aCons (gC .non) aNil))) sNil)
    (sSeq fo_wrong_in_l3_l2_2
    (sRet (gLst aNil))))))
theorem m_wrong_in_l3_l2_eq : m_wrong_in_l3_l2 = bodyF 6 ((sSeq (sIf (gOr (gNot (gB (g1 (hIsiT cls "tuple") (gName 0)))) (gB (g2 (hBool ltB) (g1 hLen (gName 0)) (gName 1)))) (sRet (gLst (aCons (gC .non) aNil))) sNil)
    (sSeq fo_wrong_in_l3_l2_2
    (sRet (gLst aNil))))) := sld_eq _
noncomputable def m_wrong_in_all_l2 : DF := sld (bodyF 3 ((sRet (gIf (gB (gCall 2 m_is_tuple_of (aCons (gName 0) (aCons (gName 1) aNil)))) (gCallM 4 m_wrong_in_l3_l2 3 [2] (aCons (gName 0) (aCons (gName 1) (aCons (gName 1) aLam)))) (gLst (aCons (gC .non) aNil))))))
theorem m_wrong_in_all_l2_eq : m_wrong_in_all_l2 = bodyF 3 ((sRet (gIf (gB (gCall 2 m_is_tuple_of (aCons (gName 0) (aCons (gName 1) aNil)))) (gCallM 4 m_wrong_in_l3_l2 3 [2] (aCons (gName 0) (aCons (gName 1) (aCons (gName 1) aLam)))) (gLst (aCons (gC .non) aNil))))) := sld_eq _
noncomputable def m_wrong_in_told : DF := sld (bodyF 2 ((sRet (gCallM 3 m_wrong_in_all_l2 2 [] (aCons (gName 1) (aCons (gName 0) aLam))))))
theorem m_wrong_in_told_eq : m_wrong_in_told = bodyF 2 ((sRet (gCallM 3 m_wrong_in_all_l2 2 [] (aCons (gName 1) (aCons (gName 0) aLam))))) := sld_eq _
noncomputable def fb_check_told_1 : SF := sld (sNever)
theorem fb_check_told_1_eq : fb_check_told_1 = (sNever) := sld_eq _
noncomputable def fo_check_told_2 : SF := sld (sFor (iAny (gCall 2 m_wrong_in_told (aCons (gCall 2 m_size_by (aCons (gName 0) (aCons (gName 1) aNil))) (aCons (gName 2) aNil)))) (toName 3) fb_check_told_1)
theorem fo_check_told_2_eq : fo_check_told_2 = (sFor (iAny (gCall 2 m_wrong_in_told (aCons (gCall 2 m_size_by (aCons (gName 0) (aCons (gName 1) aNil))) (aCons (gName 2) aNil)))) (toName 3) fb_check_told_1) := sld_eq _
noncomputable def m_check_told : DF := sld (bodyF 4 ((sSeq (sExp (gCall 2 m_check_rule (aCons (gName 0) (aCons (gName 1) aNil))))
    fo_check_told_2)))
theorem m_check_told_eq : m_check_told = bodyF 4 ((sSeq (sExp (gCall 2 m_check_rule (aCons (gName 0) (aCons (gName 1) aNil))))
    fo_check_told_2)) := sld_eq _
noncomputable def lc_rows_by_1 : EF Vl := sld (gLc [4] (iAny (gProp "Web" m_Web_places (gName 0))) (toName 4) tYesB (gJoin [(gFmt (gC c_PLACE)), (gC (.str " ")), (gFmt (gName 4))]))
theorem lc_rows_by_1_eq : lc_rows_by_1 = (gLc [4] (iAny (gProp "Web" m_Web_places (gName 0))) (toName 4) tYesB (gJoin [(gFmt (gC c_PLACE)), (gC (.str " ")), (gFmt (gName 4))])) := sld_eq _
noncomputable def lc_rows_by_2 : EF Vl := sld (gLc [5, 6] (iAny (gProp "Web" m_Web_ties (gName 0))) (toTup 2 (toCons (toName 5) (toCons (toName 6) toNil))) tYesB (gJoin [(gFmt (gC c_TIE)), (gC (.str " ")), (gFmt (gName 5)), (gC (.str " ")), (gFmt (gName 6))]))
theorem lc_rows_by_2_eq : lc_rows_by_2 = (gLc [5, 6] (iAny (gProp "Web" m_Web_ties (gName 0))) (toTup 2 (toCons (toName 5) (toCons (toName 6) toNil))) tYesB (gJoin [(gFmt (gC c_TIE)), (gC (.str " ")), (gFmt (gName 5)), (gC (.str " ")), (gFmt (gName 6))])) := sld_eq _
noncomputable def lc_rows_by_3 : EF Vl := sld (gLc [9, 10] (iEnm (aCons (gName 7) aNil)) (toTup 2 (toCons (toName 9) (toCons (toName 10) toNil))) (gB (g2 (hBool inB) (gName 10) (gCall 1 m_marked_words (aCons (gName 1) aNil)))) (gName 9))
theorem lc_rows_by_3_eq : lc_rows_by_3 = (gLc [9, 10] (iEnm (aCons (gName 7) aNil)) (toTup 2 (toCons (toName 9) (toCons (toName 10) toNil))) (gB (g2 (hBool inB) (gName 10) (gCall 1 m_marked_words (aCons (gName 1) aNil)))) (gName 9)) := sld_eq _
noncomputable def m_mark_word : DF := sld (bodyF 1 ((sRet (gIf (gB (g1 hIsN (gName 0))) (gC c_OPEN) (g1 (h1 strD) (gName 0))))))
theorem m_mark_word_eq : m_mark_word = bodyF 1 ((sRet (gIf (gB (g1 hIsN (gName 0))) (gC c_OPEN) (g1 (h1 strD) (gName 0))))) := sld_eq _
noncomputable def lc_rows_by_4 : EF Vl := sld (gLc [9, 12] (iEnm (aCons (gName 3) aNil)) (toTup 2 (toCons (toName 9) (toCons (toName 12) toNil))) tYesB (gIf (gB (g2 (hBool inB) (gName 9) (gName 11))) (gJoin [(gFmt (gName 12)), (gC (.str " ")), (gFmt (gCall 1 m_mark_word (aCons (g2 hIxA (gName 11) (gName 9)) aNil)))]) (gName 12)))
theorem lc_rows_by_4_eq : lc_rows_by_4 = (gLc [9, 12] (iEnm (aCons (gName 3) aNil)) (toTup 2 (toCons (toName 9) (toCons (toName 12) toNil))) tYesB (gIf (gB (g2 (hBool inB) (gName 9) (gName 11))) (gJoin [(gFmt (gName 12)), (gC (.str " ")), (gFmt (gCall 1 m_mark_word (aCons (g2 hIxA (gName 11) (gName 9)) aNil)))]) (gName 12))) := sld_eq _
noncomputable def m_rows_by : DF := sld (bodyF 13 ((sSeq (sSet 3 (g2 hAdd lc_rows_by_1 lc_rows_by_2))
    (sSeq (sSet 7 (g2 hAdd (g2 hMul (gLst (aCons (gC c_PLACE) aNil)) (g1 hLen (gProp "Web" m_Web_places (gName 0)))) (g2 hMul (gLst (aCons (gC c_TIE) aNil)) (g1 hLen (gProp "Web" m_Web_ties (gName 0))))))
    (sSeq (sSet 8 lc_rows_by_3)
    (sSeq (sSet 11 (gDictZip (aCons (gName 8) (aCons (gName 2) aNil))))
    (sRet (gTup (aCons (gJoin [(gFmt (gC c_RULE)), (gC (.str " ")), (gFmt (gName 1))]) (aStar lc_rows_by_4 aNil))))))))))
theorem m_rows_by_eq : m_rows_by = bodyF 13 ((sSeq (sSet 3 (g2 hAdd lc_rows_by_1 lc_rows_by_2))
    (sSeq (sSet 7 (g2 hAdd (g2 hMul (gLst (aCons (gC c_PLACE) aNil)) (g1 hLen (gProp "Web" m_Web_places (gName 0)))) (g2 hMul (gLst (aCons (gC c_TIE) aNil)) (g1 hLen (gProp "Web" m_Web_ties (gName 0))))))
    (sSeq (sSet 8 lc_rows_by_3)
    (sSeq (sSet 11 (gDictZip (aCons (gName 8) (aCons (gName 2) aNil))))
    (sRet (gTup (aCons (gJoin [(gFmt (gC c_RULE)), (gC (.str " ")), (gFmt (gName 1))]) (aStar lc_rows_by_4 aNil))))))))) := sld_eq _
noncomputable def m_mark_rows : DF := sld (bodyF 3 ((sSeq (sExp (gCall 3 m_check_told (aCons (gName 0) (aCons (gName 1) (aCons (gName 2) aNil)))))
    (sRet (gCall 3 m_rows_by (aCons (gName 0) (aCons (gName 1) (aCons (gName 2) aNil))))))))
theorem m_mark_rows_eq : m_mark_rows = bodyF 3 ((sSeq (sExp (gCall 3 m_check_told (aCons (gName 0) (aCons (gName 1) (aCons (gName 2) aNil)))))
    (sRet (gCall 3 m_rows_by (aCons (gName 0) (aCons (gName 1) (aCons (gName 2) aNil))))))) := sld_eq _
noncomputable def m_Web_parts : DF := sld (bodyF 1 ((sRet (g1 (hFld "Web" "all_told") (gName 0)))))
theorem m_Web_parts_eq : m_Web_parts = bodyF 1 ((sRet (g1 (hFld "Web" "all_told") (gName 0)))) := sld_eq _
noncomputable def m_Web___eq__ : DF := sld (bodyF 2 ((sRet (gBV (gAnd (gB (g1 (hIsiC cls "Web") (gName 1))) (gB (g2 (hBool eqB) (gProp "Web" m_Web_parts (gName 0)) (gProp "Web" m_Web_parts (gName 1)))))))))
theorem m_Web___eq___eq : m_Web___eq__ = bodyF 2 ((sRet (gBV (gAnd (gB (g1 (hIsiC cls "Web") (gName 1))) (gB (g2 (hBool eqB) (gProp "Web" m_Web_parts (gName 0)) (gProp "Web" m_Web_parts (gName 1)))))))) := sld_eq _
noncomputable def fb__law_right_3 : SF := sld ((sSeq (sSet 2 (gCall 2 m__law_web (aCons (gName 0) (aCons (gC (.int 5)) aNil))))
    (sSeq (sPar [3, 4] (vCons (gCall 2 m__law_size (aCons (gName 2) (aCons (gName 1) aNil))) (vCons (gCall 1 m__law_made (aCons (gName 2) aNil)) vNil)))
    (sSeq (sSet 5 (g1 hTuple lc__law_right_1))
    (sSeq (sSet 7 (g1 hTuple lc__law_right_2))
    (sSeq (sSet 8 (gCall 3 m__law_text (aCons (gName 2) (aCons (gName 1) (aCons (gName 5) aNil)))))
    (sSeq (sSet 9 (gCall 1 m_read_marks (aCons (gName 8) aNil)))
    (sSeq (sIf (gNot (gB (gCall 2 (m__law_same 6) (aCons (gTup (aCons (gCall 3 m_mark_rows (aCons (gName 4) (aCons (gName 1) (aCons (gName 5) aNil)))) (aCons (gCallK 0 3 [2, 1, 0] 3 m_mark_rows aNil (aCons (gName 5) (aCons (gName 1) (aCons (gName 4) aNil)))) aNil))) (aCons (gTup (aCons (gName 8) (aCons (gName 8) aNil))) aNil))))) (sRet (gC (.bl false))) sNil)
    (sSeq (sIf (gNot (gB (gCall 2 (m__law_same 6) (aCons (gTup (aCons (gProp "Web" m_Web_parts (g2 hIx (gName 9) (gC (.int 0)))) (aCons (gSl (gName 9) (pSome (gC (.int 1))) pNone) (aCons (gEqO "Web" m_Web___eq__ (gCallK 0 1 [0] 1 m_read_marks aNil (aCons (gName 8) aNil)) (gTup (aCons (gName 4) (aCons (gName 1) (aCons (gName 5) aNil))))) aNil)))) (aCons (gTup (aCons (gName 2) (aCons (gTup (aCons (gName 1) (aCons (gName 5) aNil))) (aCons (gC (.bl true)) aNil)))) aNil))))) (sRet (gC (.bl false))) sNil)
    (sIf (gNot (gB (gCall 2 (m__law_same 6) (aCons (gTup (aCons (g2 (hBool eqB) (gCall 3 m_mark_rows (aCons (gName 4) (aCons (gName 1) (aCons (gName 7) aNil)))) (gName 8)) (aCons (g2 hIx (gCall 1 m_read_marks (aCons (gCall 3 m_mark_rows (aCons (gName 4) (aCons (gName 1) (aCons (gName 7) aNil)))) aNil)) (gC (.int 2))) aNil))) (aCons (gTup (aCons (g2 (hBool eqB) (gName 7) (gName 5)) (aCons (gName 7) aNil))) aNil))))) (sRet (gC (.bl false))) sNil))))))))))
theorem fb__law_right_3_eq : fb__law_right_3 = ((sSeq (sSet 2 (gCall 2 m__law_web (aCons (gName 0) (aCons (gC (.int 5)) aNil))))
    (sSeq (sPar [3, 4] (vCons (gCall 2 m__law_size (aCons (gName 2) (aCons (gName 1) aNil))) (vCons (gCall 1 m__law_made (aCons (gName 2) aNil)) vNil)))
    (sSeq (sSet 5 (g1 hTuple lc__law_right_1))
    (sSeq (sSet 7 (g1 hTuple lc__law_right_2))
    (sSeq (sSet 8 (gCall 3 m__law_text (aCons (gName 2) (aCons (gName 1) (aCons (gName 5) aNil)))))
    (sSeq (sSet 9 (gCall 1 m_read_marks (aCons (gName 8) aNil)))
    (sSeq (sIf (gNot (gB (gCall 2 (m__law_same 6) (aCons (gTup (aCons (gCall 3 m_mark_rows (aCons (gName 4) (aCons (gName 1) (aCons (gName 5) aNil)))) (aCons (gCallK 0 3 [2, 1, 0] 3 m_mark_rows aNil (aCons (gName 5) (aCons (gName 1) (aCons (gName 4) aNil)))) aNil))) (aCons (gTup (aCons (gName 8) (aCons (gName 8) aNil))) aNil))))) (sRet (gC (.bl false))) sNil)
    (sSeq (sIf (gNot (gB (gCall 2 (m__law_same 6) (aCons (gTup (aCons (gProp "Web" m_Web_parts (g2 hIx (gName 9) (gC (.int 0)))) (aCons (gSl (gName 9) (pSome (gC (.int 1))) pNone) (aCons (gEqO "Web" m_Web___eq__ (gCallK 0 1 [0] 1 m_read_marks aNil (aCons (gName 8) aNil)) (gTup (aCons (gName 4) (aCons (gName 1) (aCons (gName 5) aNil))))) aNil)))) (aCons (gTup (aCons (gName 2) (aCons (gTup (aCons (gName 1) (aCons (gName 5) aNil))) (aCons (gC (.bl true)) aNil)))) aNil))))) (sRet (gC (.bl false))) sNil)
    (sIf (gNot (gB (gCall 2 (m__law_same 6) (aCons (gTup (aCons (g2 (hBool eqB) (gCall 3 m_mark_rows (aCons (gName 4) (aCons (gName 1) (aCons (gName 7) aNil)))) (gName 8)) (aCons (g2 hIx (gCall 1 m_read_marks (aCons (gCall 3 m_mark_rows (aCons (gName 4) (aCons (gName 1) (aCons (gName 7) aNil)))) aNil)) (gC (.int 2))) aNil))) (aCons (gTup (aCons (g2 (hBool eqB) (gName 7) (gName 5)) (aCons (gName 7) aNil))) aNil))))) (sRet (gC (.bl false))) sNil)))))))))) := sld_eq _
noncomputable def fo__law_right_4 : SF := sld (sFor (iAny (gTup (aCons (gC (.str "steps")) (aCons (gC (.str "rests")) (aCons (gC (.str "halves")) (aCons (gC (.str "like")) (aCons (gC (.str "unlike")) (aCons (gC (.str "lucky")) (aCons (gC (.str "ones")) (aCons (gC (.str "far")) (aCons (gC (.str "free")) aNil))))))))))) (toName 1) fb__law_right_3)
theorem fo__law_right_4_eq : fo__law_right_4 = (sFor (iAny (gTup (aCons (gC (.str "steps")) (aCons (gC (.str "rests")) (aCons (gC (.str "halves")) (aCons (gC (.str "like")) (aCons (gC (.str "unlike")) (aCons (gC (.str "lucky")) (aCons (gC (.str "ones")) (aCons (gC (.str "far")) (aCons (gC (.str "free")) aNil))))))))))) (toName 1) fb__law_right_3) := sld_eq _
noncomputable def m__law_right : DF := sld (bodyF 10 ((sSeq fo__law_right_4
    (sRet (gC (.bl true))))))
theorem m__law_right_eq : m__law_right = bodyF 10 ((sSeq fo__law_right_4
    (sRet (gC (.bl true))))) := sld_eq _
noncomputable def fb__law_bowl_1 : SF := sld ((sSet 2 (g2 iMod (g1 (h1 intD) (g2 hAdd (g2 hAdd (g2 hMul (gName 2) (gC (.int 48611))) (g2 hMul (g2 iMod (g1 (h1 intD) (gName 3)) (gC (.int 2147483053))) (gC (.int 19)))) (gC (.int 41)))) (gC (.int 2147483563)))))
theorem fb__law_bowl_1_eq : fb__law_bowl_1 = ((sSet 2 (g2 iMod (g1 (h1 intD) (g2 hAdd (g2 hAdd (g2 hMul (gName 2) (gC (.int 48611))) (g2 hMul (g2 iMod (g1 (h1 intD) (gName 3)) (gC (.int 2147483053))) (gC (.int 19)))) (gC (.int 41)))) (gC (.int 2147483563))))) := sld_eq _
noncomputable def fo__law_bowl_2 : SF := sld (sFor (iAny (gSl (gName 0) pNone (pSome (gC (.int 9))))) (toName 3) fb__law_bowl_1)
theorem fo__law_bowl_2_eq : fo__law_bowl_2 = (sFor (iAny (gSl (gName 0) pNone (pSome (gC (.int 9))))) (toName 3) fb__law_bowl_1) := sld_eq _
noncomputable def m__law_bowl : DF := sld (bodyF 5 ((sSeq (sSet 2 (g2 hAdd (gC (.int 771041)) (g2 hMul (gC (.int 8819)) (gName 1))))
    (sSeq fo__law_bowl_2
    (sSeq (sSet 4 (gIf (gB (g2 (hBool ltB) (gName 1) (g1 hLen (gName 0)))) (g1 (h1 intD) (g2 hIx (gName 0) (gName 1))) (gC (.int 0))))
    (sSeq (sSet 2 (g2 iMod (g1 (h1 intD) (g2 hAdd (g2 hAdd (g2 hMul (gName 2) (gC (.int 53))) (g2 hMul (g2 iMod (gName 4) (gC (.int 2147483053))) (gC (.int 27011)))) (gC (.int 11)))) (gC (.int 2147483563))))
    (sRet (gRef (gLst (aCons (gIf (gOr (gB (g2 (hBool ltB) (gName 4) (gC (.int 0)))) (gB (g2 iGe (gName 4) (g2 iPow (gC (.int 10)) (gC (.int 16)))))) (g1 (h1 absD) (gName 4)) (gC (.int 0))) (aCons (gName 2) (aCons (gC (.int 0)) aNil))))))))))))
theorem m__law_bowl_eq : m__law_bowl = bodyF 5 ((sSeq (sSet 2 (g2 hAdd (gC (.int 771041)) (g2 hMul (gC (.int 8819)) (gName 1))))
    (sSeq fo__law_bowl_2
    (sSeq (sSet 4 (gIf (gB (g2 (hBool ltB) (gName 1) (g1 hLen (gName 0)))) (g1 (h1 intD) (g2 hIx (gName 0) (gName 1))) (gC (.int 0))))
    (sSeq (sSet 2 (g2 iMod (g1 (h1 intD) (g2 hAdd (g2 hAdd (g2 hMul (gName 2) (gC (.int 53))) (g2 hMul (g2 iMod (gName 4) (gC (.int 2147483053))) (gC (.int 27011)))) (gC (.int 11)))) (gC (.int 2147483563))))
    (sRet (gRef (gLst (aCons (gIf (gOr (gB (g2 (hBool ltB) (gName 4) (gC (.int 0)))) (gB (g2 iGe (gName 4) (g2 iPow (gC (.int 10)) (gC (.int 16)))))) (g1 (h1 absD) (gName 4)) (gC (.int 0))) (aCons (gName 2) (aCons (gC (.int 0)) aNil))))))))))) := sld_eq _
noncomputable def lc_law_1 : EF Vl := sld (gLc [1] (iRng1 (aCons (g2 (h2 maxD) (gC (.int 1)) (g2 (h2 minD) (g1 hLen (gName 0)) (gC (.int 3)))) aNil)) (toName 1) tYesB (gCall 1 m__law_right (aCons (gCall 2 m__law_bowl (aCons (gName 0) (aCons (gName 1) aNil))) aNil)))
theorem lc_law_1_eq : lc_law_1 = (gLc [1] (iRng1 (aCons (g2 (h2 maxD) (gC (.int 1)) (g2 (h2 minD) (g1 hLen (gName 0)) (gC (.int 3)))) aNil)) (toName 1) tYesB (gCall 1 m__law_right (aCons (gCall 2 m__law_bowl (aCons (gName 0) (aCons (gName 1) aNil))) aNil))) := sld_eq _
noncomputable def m_law : DF := sld (bodyF 2 ((sRet (g1 hAll lc_law_1))))
theorem m_law_eq : m_law = bodyF 2 ((sRet (g1 hAll lc_law_1))) := sld_eq _
end Nk83
set_option maxRecDepth 100000
set_option maxHeartbeats 2000000
namespace Nk83
open PySem DL
/-! ### the bowl -/
def Bw3 (m : MO) : Prop := ∃ a b c : Int, m = .lst [.int a, .int b, .int c]
def Bows (μ : Mu) : Prop := ∀ m ∈ μ, Bw3 m
theorem Bows.get {μ : Mu} (B : Bows μ) {i : Nat} (hi : i < μ.length) : ∃ a b c : Int, μ[i]? = some (.lst [.int a, .int b, .int c]) := by
  obtain ⟨a, b, c, e⟩ := B _ (List.getElem_mem hi)
  exact ⟨a, b, c, by rw [List.getElem?_eq_getElem hi, e]⟩
theorem Bows.set {μ : Mu} (B : Bows μ) {i : Nat} {a b c : Int} : Bows (μ.set i (.lst [.int a, .int b, .int c])) := fun m hm => by
  rcases List.mem_or_eq_of_mem_set hm with h | h
  · exact B m h
  · exact ⟨a, b, c, h⟩
theorem draw_ev {μ : Mu} {i : Nat} (B : Bows μ) (hi : i < μ.length) {many : Int} (h : 0 < many) (h2 : many < 1073741824) : ∃ k μ', m__law_draw [.mrf i, .int many] μ = .ok (.int k) μ' ∧ Bows μ' ∧ μ'.length = μ.length ∧ 0 ≤ k ∧ k < many := by
  obtain ⟨a, b, c, e⟩ := B.get hi
  have es : ∀ x, (μ.set i x)[i]? = some x := fun x => List.getElem?_set_self hi
  by_cases ha : 0 < a
  · refine ⟨a % many, μ.set i (.lst [.int (a / many), .int b, .int c]), ?_, B.set, by simp, Int.emod_nonneg _ (by omega), Int.emod_lt_of_pos _ h⟩
    simp [m__law_draw_eq, ha, h, h2, L2.atI, L2.ixN, e]
  · have h3 : mulOk ((b * 39373 + 17011 * (c + 1)) % 2147483563) ((b * 39373 + 17011 * (c + 1)) % 2147483563 % 4093 + 30011) = true := mulOk_r (by omega) (by omega)
    let b' := ((b * 39373 + 17011 * (c + 1)) % 2147483563 * ((b * 39373 + 17011 * (c + 1)) % 2147483563 % 4093 + 30011) + 7 * (c + 1)) % 2147483563
    refine ⟨b' / 733 % many, μ.set i (.lst [.int a, .int b', .int (c + 1)]), ?_, B.set, by simp, Int.emod_nonneg _ (by omega), Int.emod_lt_of_pos _ h⟩
    simp [m__law_draw_eq, ha, h, h2, L2.atI, L2.ixN, mulOk_l, mulOk_r, h3, e, es, b']
theorem of_ev {μ : Mu} {i : Nat} (B : Bows μ) (hi : i < μ.length) {ds : List D} (h : ds ≠ []) (h2 : ds.length < 1073741824) : ∃ d μ', m__law_of [.mrf i, .tup ds] μ = .ok d μ' ∧ Bows μ' ∧ μ'.length = μ.length ∧ d ∈ ds := by
  have hp : 0 < ds.length := List.length_pos_iff.mpr h
  obtain ⟨k, μ', e, B', l, h1, h3⟩ := draw_ev B hi (many := ds.length) (by omega) (by omega)
  obtain ⟨n, rfl⟩ := Int.eq_ofNat_of_zero_le h1
  have hn : n < ds.length := by omega
  refine ⟨ds[n], μ', ?_, B', l, List.getElem_mem hn⟩
  simp [m__law_of_eq, e, at_nat, hn]
end Nk83
set_option maxRecDepth 100000
set_option maxHeartbeats 2000000
namespace Nk83
open PySem DL
/-! ### names -/
def ALPHA : Str := "abcdefghijklmnopqrstuvwxyz"
theorem alpha_list : ALPHA.cps.toList = (List.range 26).map (· + 97) := by decide +kernel
theorem alpha_len : ALPHA.length = 26 := by decide +kernel
def Low (x : Str) : Prop := ∀ c ∈ x.cps.toList, 97 ≤ c ∧ c ≤ 122
def WORDS : List Str := List.map Str.ofString ["all", "apart", "back", "beside", "book", "case", "differ", "fill", "free", "halves", "in", "like", "lone", "lucky", "mark", "marks", "next", "none", "of", "ones", "open", "out", "place", "put", "quit", "rests", "rule", "span", "steps", "sum", "sums", "take", "tie", "undo", "unlike", "web", "yes"]
def RULES : List Str := ["far", "free", "halves", "like", "lucky", "ones", "rests", "steps", "unlike"]
structure Good (x : Str) : Prop where
  low : Low x
  pos : 1 ≤ x.length
  le : x.length ≤ 8
  nw : x ∉ WORDS
theorem Low.app {a b : Str} (h : Low a) (g : Low b) : Low (a ++ b) := fun c hc => by
  rw [app_list] at hc
  rcases List.mem_append.mp hc with z | z
  · exact h c z
  · exact g c z
theorem rng_get {n i : Nat} {d : D} (h : (rngD 0 n)[i]? = some d) : d = .int i ∧ i < n := by
  unfold rngD at h
  rw [List.getElem?_map] at h
  by_cases hi : i < n
  · rw [List.getElem?_range hi] at h
    cases h
    exact ⟨by simp, hi⟩
  · rw [List.getElem?_eq_none (by rw [List.length_range]; omega)] at h
    cases h
theorem rng_len (n : Nat) : (rngD 0 n).length = n := by simp [rngD]
theorem empty_str : ("" : Str) = Str.empty := by decide +kernel
theorem inner_ev {μ : Mu} {i : Nat} (B : Bows μ) (hi : i < μ.length) (a1 a2 a3 a4 a5 a6 a8 a9 a10 a11 : Sl) : ∃ nm s8 μ', fo__law_names_2 [.fz (.mrf i), a1, a2, a3, a4, a5, a6, .fz (.str Str.empty), a8, a9, a10, a11] μ = .nx [.fz (.mrf i), a1, a2, a3, a4, a5, a6, .fz (.str nm), s8, a9, a10, a11] μ' ∧
    Bows μ' ∧ μ'.length = μ.length ∧ Low nm ∧ 1 ≤ nm.length ∧ nm.length ≤ 8 := by
  rw [fo__law_names_2_eq]
  obtain ⟨d, μ1, e, B1, l1, hd⟩ := of_ev B hi (ds := [.int 1, .int 1, .int 2, .int 3, .int 5, .int 8]) (by simp) (by simp)
  obtain ⟨k, rfl, k1, k2⟩ : ∃ k : Nat, d = .int k ∧ 1 ≤ k ∧ k ≤ 8 := by
    simp at hd
    rcases hd with rfl | rfl | rfl | rfl | rfl
    · exact ⟨1, rfl, by omega, by omega⟩
    · exact ⟨2, rfl, by omega, by omega⟩
    · exact ⟨3, rfl, by omega, by omega⟩
    · exact ⟨5, rfl, by omega, by omega⟩
    · exact ⟨8, rfl, by omega, by omega⟩
  have hit : iRng1 (aCons (gCall 2 m__law_of (aCons (gName 0) (aCons (gTup (aCons (gC (.int 1)) (aCons (gC (.int 1)) (aCons (gC (.int 2)) (aCons (gC (.int 3)) (aCons (gC (.int 5)) (aCons (gC (.int 8)) aNil))))))) aNil))) aNil) [.fz (.mrf i), a1, a2, a3, a4, a5, a6, .fz (.str Str.empty), a8, a9, a10, a11] μ = .ok (rngD 0 k) [.fz (.mrf i), a1, a2, a3, a4, a5, a6, .fz (.str Str.empty), a8, a9, a10, a11] μ1 := by
    exact rng1_ok (by simp [e, sizeLine_eq]) (by omega)
  obtain ⟨ρ', μ', e2, nm, s8, rfl, B', l', lo, ln⟩ := sFor_run (tg := toName 8) (body := fb__law_names_1) (fun k ρ μ' => ∃ nm s8, ρ = [.fz (.mrf i), a1, a2, a3, a4, a5, a6, .fz (.str nm), s8, a9, a10, a11] ∧ Bows μ' ∧ μ'.length = μ.length ∧ Low nm ∧ nm.length = k) hit
    ⟨_, _, rfl, B1, l1, fun c hc => by simp [Str.empty] at hc, rfl⟩ (fun j d ρ μ2 hd h => by
      obtain ⟨nm, s8, rfl, B2, l2, lo, ln⟩ := h
      obtain ⟨rfl, hj⟩ := rng_get hd
      obtain ⟨q, μ3, e3, B3, l3, q1, q2⟩ := draw_ev B2 (i := i) (by omega) (many := 26) (by omega) (by omega)
      obtain ⟨q, rfl⟩ := Int.eq_ofNat_of_zero_le q1
      have hq : q < 26 := by omega
      have ha : ALPHA.cps.toList[q]? = some (q + 97) := by rw [alpha_list]; simp [hq]
      refine ⟨_, _, [.fz (.mrf i), a1, a2, a3, a4, a5, a6, .fz (.str (nm ++ ⟨#[q + 97]⟩)), .fz (.int j), a9, a10, a11], μ3, rfl, .inl ?_, _, _, rfl, B3, by omega, lo.app fun c hc => ?_, by rw [len_app, ln]; rfl⟩
      · have hl : nm.length + 1 ≤ 16777216 := by omega
        rw [fb__law_names_1_eq]
        show (sSet 7 (g2 hAdd (gName 7) (g2 hIxA (gC (.str ALPHA)) (gCall 2 m__law_draw (aCons (gName 0) (aCons (gC (.int 26)) aNil)))))) _ _ = _
        simp [e3, alpha_len, sizeLine_eq, at_nat, ha, hl]
      · simp at hc
        omega)
  rw [rng_len] at ln
  exact ⟨nm, s8, μ', e2, B', l', lo, by omega, by omega⟩
end Nk83
set_option maxRecDepth 100000
set_option maxHeartbeats 2000000
namespace Nk83
open PySem DL
/-- what a name may be made to -/
def pre7 (nm : Str) : Str := Txt.slice nm none (some 7)
def cands (nm : Str) : List Str := nm :: ALPHA.cps.toList.map fun c => pre7 nm ++ ⟨#[c]⟩
theorem pre7_list (nm : Str) : (pre7 nm).cps.toList = nm.cps.toList.take 7 := slice_to nm 7
theorem own_ev (μ : Mu) : m__law_own [] μ = .ok (.lst (strsD RULES)) μ := by
  have e : Txt.split ("far free halves like lucky ones rests steps unlike" : Str) (" " : Str) = RULES := by decide +kernel
  have l1 : ("far free halves like lucky ones rests steps unlike" : Str).length = 50 := by decide +kernel
  have l2 : (" " : Str).length = 1 := by decide +kernel
  simp [m__law_own_eq, e, l1, l2, sizeLine_eq]
theorem lc3_ev {μ : Mu} {b nm : Str} (hl : nm.length ≤ 8) (a0 a1 a2 a3 a4 a5 a6 a8 a9 : Sl) : lc__law_names_3 [a0, a1, a2, a3, a4, a5, a6, .fz (.str nm), a8, a9, .un, .un] μ = .ok (.frs (.lst (strsD (ALPHA.cps.toList.map fun c => pre7 nm ++ ⟨#[c]⟩)))) [a0, a1, a2, a3, a4, a5, a6, .fz (.str nm), a8, a9, .un, .un] μ := by
  have e : strsD (ALPHA.cps.toList.map fun c => pre7 nm ++ ⟨#[c]⟩) = (signsD ALPHA).map fun d => match d with
      | .str z => .str (pre7 nm ++ z)
      | d => d := by
    simp [strsD, signsD]
  have hp : (pre7 nm).length ≤ 8 := by
    rw [len_list, pre7_list, List.length_take]
    rw [len_list] at hl
    omega
  rw [e, lc__law_names_3_eq]
  refine gLc_map _ (by show iAny (gC (.str ALPHA)) _ _ = _; simp) (by simp) (by simp [signsD, sizeLine_eq, alpha_list]) (fun d hd => ?_)
  obtain ⟨c, _, rfl⟩ := List.mem_map.mp (show d ∈ ALPHA.cps.toList.map fun c => D.str ⟨#[c]⟩ from hd)
  have h1 : nm.length ≤ 16777216 := by omega
  have h2 : (Txt.slice nm none (some 7)).length ≤ 16777215 := by
    show (pre7 nm).length ≤ _
    omega
  refine ⟨[a0, a1, a2, a3, a4, a5, a6, .fz (.str nm), a8, a9, .un, .fz (.str ⟨#[c]⟩)], ?_, by simp⟩
  simp [h1, h2, sizeLine_eq, pre7]
theorem bar_ev : Txt.split ("all apart back beside book case differ fill free halves in like lone lucky mark marks next none of ones open out place" : Str) (" " : Str) ++ Txt.split ("put quit rests rule span steps sum sums take tie undo unlike web yes" : Str) (" " : Str) = WORDS := by decide +kernel
/-- the names that may be taken -/
def sel (nm : Str) (found : List Str) : List Str := (cands nm).filter fun x => !decide (x ∈ WORDS ++ found ++ RULES)
theorem filterMap_strs (p : Str → Bool) : ∀ l : List Str, (strsD l).filterMap (fun d => match d with
    | .str x => if p x = true then some (.str x) else none
    | _ => none) = strsD (l.filter p)
  | [] => rfl
  | x :: l => by
    have ih := filterMap_strs p l
    show (D.str x :: strsD l).filterMap _ = _
    rw [List.filterMap_cons]
    by_cases h : p x = true
    · simp only [h, if_true]
      rw [ih, List.filter_cons_of_pos h]
      rfl
    · simp only [h]
      rw [List.filter_cons_of_neg h]
      exact ih
theorem cands_len (nm : Str) : (cands nm).length = 27 := by simp [cands, alpha_list]
theorem lc4_ev {μ : Mu} {nm : Str} {found : List Str} (hl : nm.length ≤ 8) (hf : found.length ≤ 100) (a0 a1 a2 a3 a6 a8 a9 : Sl) : lc__law_names_4 [a0, a1, a2, a3, .ow (.lst (strsD WORDS)), .ow (.lst (strsD found)), a6, .fz (.str nm), a8, a9, .un, .un] μ = .ok (.frs (.lst (strsD (sel nm found)))) [a0, a1, a2, a3, .ow (.lst (strsD WORDS)), .ow (.lst (strsD found)), a6, .fz (.str nm), a8, a9, .un, .un] μ := by
  have w : WORDS.length = 37 := rfl
  have w2 : RULES.length = 9 := rfl
  unfold sel
  rw [← filterMap_strs, lc__law_names_4_eq]
  refine gLc_fm _ ?_ (by simp) (by rw [strsD_len, cands_len, sizeLine_eq]; omega) (fun d hd => ?_)
  · simp [lc3_ev (b := nm) hl, sizeLine_eq, strsD_len, cands, alpha_list]
    rfl
  · obtain ⟨x, _, rfl⟩ := List.mem_map.mp (show d ∈ (cands nm).map D.str from hd)
    refine ⟨[a0, a1, a2, a3, .ow (.lst (strsD WORDS)), .ow (.lst (strsD found)), a6, .fz (.str nm), a8, a9, .fz (.str x), .un], ?_, by simp⟩
    have h1 : 37 + found.length ≤ 16777216 := by omega
    have h2 : 37 + found.length + 9 ≤ 16777216 := by omega
    simp [own_ev, sizeLine_eq, strsD_len, w, w2, h1, h2, strsD_app]
    split <;> rfl
theorem cands_good {nm x : Str} (lo : Low nm) (h1 : 1 ≤ nm.length) (h2 : nm.length ≤ 8) (h : x ∈ cands nm) : Low x ∧ 1 ≤ x.length ∧ x.length ≤ 8 := by
  rcases List.mem_cons.mp h with rfl | h
  · exact ⟨lo, h1, h2⟩
  · obtain ⟨c, hc, rfl⟩ := List.mem_map.mp h
    rw [alpha_list] at hc
    have lp : (pre7 nm).length ≤ 7 := by rw [len_list, pre7_list, List.length_take]; omega
    refine ⟨Low.app (fun c hc => ?_) (fun d hd => ?_), by rw [len_app]; simp, by rw [len_app]; simp; omega⟩
    · rw [pre7_list] at hc
      exact lo c (List.mem_of_mem_take hc)
    · simp at hd hc
      omega
def FIX : List Str := WORDS ++ [Str.ofString "far"]
theorem rules_fix : ∀ x ∈ RULES, x ∈ FIX := by decide +kernel
theorem fixed_few : ∀ n, n ≤ 8 → (FIX.filter fun x => decide (x.length = n)).length ≤ 20 := by decide +kernel
theorem sel_some {nm : Str} {found : List Str} (h1 : 1 ≤ nm.length) (h2 : nm.length ≤ 8) (hf : found.length ≤ 5) : sel nm found ≠ [] := by
  intro z
  have all : ∀ c ∈ ALPHA.cps.toList, pre7 nm ++ ⟨#[c]⟩ ∈ WORDS ++ found ++ RULES := fun c hc => by
    have := List.filter_eq_nil_iff.mp z (pre7 nm ++ ⟨#[c]⟩) (List.mem_cons_of_mem _ (List.mem_map.mpr ⟨c, hc, rfl⟩))
    rcases Classical.em (pre7 nm ++ (⟨#[c]⟩ : Str) ∈ WORDS ++ found ++ RULES) with h | h
    · exact h
    · simp only [decide_eq_false h] at this
      exact absurd this (by simp)
  have lp : (pre7 nm).length ≤ 7 := by rw [len_list, pre7_list, List.length_take]; omega
  have nd : (ALPHA.cps.toList.map fun c => pre7 nm ++ (⟨#[c]⟩ : Str)).Nodup := by
    have inj : ∀ {a b : Nat}, a ≠ b → pre7 nm ++ (⟨#[a]⟩ : Str) ≠ pre7 nm ++ (⟨#[b]⟩ : Str) := fun {a b} h e => h (by
      have e2 := congrArg (fun z : Str => z.cps.toList) e
      simp only [app_list] at e2
      have e3 := List.append_cancel_left e2
      simpa using e3)
    have nda : ALPHA.cps.toList.Nodup := by rw [alpha_list]; decide
    exact List.pairwise_map.mpr (nda.imp inj)
  have sub : ∀ x ∈ (ALPHA.cps.toList.map fun c => pre7 nm ++ (⟨#[c]⟩ : Str)), x ∈ (FIX.filter fun x => decide (x.length = (pre7 nm).length + 1)) ++ found := fun x hx => by
    obtain ⟨c, hc, rfl⟩ := List.mem_map.mp hx
    have m := all c hc
    have l : (pre7 nm ++ (⟨#[c]⟩ : Str)).length = (pre7 nm).length + 1 := by rw [len_app]; rfl
    rcases List.mem_append.mp m with m | m
    · rcases List.mem_append.mp m with m | m
      · exact List.mem_append.mpr (.inl (List.mem_filter.mpr ⟨show _ ∈ WORDS ++ [Str.ofString "far"] from List.mem_append.mpr (.inl m), by simp [l]⟩))
      · exact List.mem_append.mpr (.inr m)
    · exact List.mem_append.mpr (.inl (List.mem_filter.mpr ⟨rules_fix _ m, by simp [l]⟩))
  have := nodup_sub nd sub
  rw [List.length_append, List.length_map, alpha_list] at this
  have := fixed_few ((pre7 nm).length + 1) (by omega)
  simp at *
  omega
structure Names (ns : List Str) : Prop where
  good : ∀ x ∈ ns, Good x
  asc : ns.Pairwise fun a b => ltS a b = true
theorem names_ev {μ : Mu} {i : Nat} (B : Bows μ) (hi : i < μ.length) {many : Nat} (hm : many ≤ 5) : ∃ ns μ', m__law_names [.mrf i, .int many] μ = .ok (.tup (strsD ns)) μ' ∧ Bows μ' ∧ μ'.length = μ.length ∧ ns.length = many ∧ Names ns := by
  have w : WORDS.length = 37 := rfl
  obtain ⟨ρ', μ1, e, found, s6, s7, s8, s9, rfl, B1, l1, fl, nd, gd⟩ := sFor_run (tg := toName 6) (body := fb__law_names_5) (ρ := [.fz (.mrf i), .fz (.int many), .fz (.str "all apart back beside book case differ fill free halves in like lone lucky mark marks next none of ones open out place"), .fz (.str "put quit rests rule span steps sum sums take tie undo unlike web yes"), .ow (.lst (strsD WORDS)), .ow (.lst (strsD [])), .un, .un, .un, .un, .un, .un])
    (fun k ρ μ' => ∃ found s6 s7 s8 s9, ρ = [.fz (.mrf i), .fz (.int many), .fz (.str "all apart back beside book case differ fill free halves in like lone lucky mark marks next none of ones open out place"), .fz (.str "put quit rests rule span steps sum sums take tie undo unlike web yes"), .ow (.lst (strsD WORDS)), .ow (.lst (strsD found)), s6, s7, s8, s9, .un, .un] ∧ Bows μ' ∧ μ'.length = μ.length ∧ found.length = k ∧ found.Nodup ∧ ∀ x ∈ found, Good x)
    (it := iRng1 (aCons (gName 1) aNil)) (ρ0 := [.fz (.mrf i), .fz (.int many), .fz (.str "all apart back beside book case differ fill free halves in like lone lucky mark marks next none of ones open out place"), .fz (.str "put quit rests rule span steps sum sums take tie undo unlike web yes"), .ow (.lst (strsD WORDS)), .ow (.lst (strsD [])), .un, .un, .un, .un, .un, .un]) (μ0 := μ) (μ := μ) (ds := rngD 0 many)
    (rng1_ok (by simp) (by omega))
    ⟨[], _, _, _, _, rfl, B, rfl, rfl, List.nodup_nil, fun x h => by simp at h⟩ (fun j d ρ μ2 hd h => by
      obtain ⟨found, s6, s7, s8, s9, rfl, B2, l2, fl, nd, gd⟩ := h
      obtain ⟨rfl, hj⟩ := rng_get hd
      obtain ⟨nm, t8, μ3, e3, B3, l3, lo, n1, n2⟩ := inner_ev B2 (i := i) (by omega) (.fz (.int many)) (.fz (.str "all apart back beside book case differ fill free halves in like lone lucky mark marks next none of ones open out place")) (.fz (.str "put quit rests rule span steps sum sums take tie undo unlike web yes")) (.ow (.lst (strsD WORDS))) (.ow (.lst (strsD found))) (.fz (.int j)) s8 s9 .un .un
      have hs := sel_some (nm := nm) (found := found) n1 n2 (by omega)
      obtain ⟨x, xs, hx⟩ := List.exists_cons_of_ne_nil hs
      have mx : x ∈ sel nm found := by rw [hx]; simp
      obtain ⟨mc, mb⟩ := List.mem_filter.mp mx
      obtain ⟨x1, x2, x3⟩ := cands_good lo n1 n2 mc
      have fl2 : found.length < 16777216 := by omega
      have mb2 : x ∉ WORDS ∧ x ∉ found ∧ x ∉ RULES := by simpa using mb
      refine ⟨_, _, [.fz (.mrf i), .fz (.int many), .fz (.str "all apart back beside book case differ fill free halves in like lone lucky mark marks next none of ones open out place"), .fz (.str "put quit rests rule span steps sum sums take tie undo unlike web yes"), .ow (.lst (strsD WORDS)), .ow (.lst (strsD (found ++ [x]))), .fz (.int j), .fz (.str nm), t8, .ow (.lst (strsD (sel nm found))), .un, .un], μ3, rfl, .inl ?_, found ++ [x], _, _, _, _, rfl, B3, by omega, by rw [List.length_append, fl]; rfl, ?_, ?_⟩
      · have at0 : L2.atI (strsD (sel nm found)) 0 = some (.str x) := by
          rw [show (0 : Int) = ((0 : Nat) : Int) from rfl, at_nat, hx]; rfl
        simp [fb__law_names_5_eq, empty_str, e3, lc4_ev n2 (show found.length ≤ 100 by omega), at0, sizeLine_eq, strsD_len, fl2]
        simp [strsD]
      · rw [List.nodup_append]
        exact ⟨nd, by simp, fun a ha b hb => by rw [List.mem_singleton.mp hb]; intro z; rw [z] at ha; exact mb2.2.1 ha⟩
      · intro y hy
        rcases List.mem_append.mp hy with hy | hy
        · exact gd y hy
        · rw [List.mem_singleton.mp hy]
          exact ⟨x1, x2, x3, mb2.1⟩)
  rw [rng_len] at fl
  obtain ⟨ns, q1, q2, q3⟩ := sort_strs nd
  refine ⟨ns, μ1, ?_, B1, l1, by rw [q2.length_eq, fl], fun x hx => gd x (q2.mem_iff.mp hx), q3⟩
  have c1 : Txt.split ("all apart back beside book case differ fill free halves in like lone lucky mark marks next none of ones open out place" : Str) (" " : Str) ++ Txt.split ("put quit rests rule span steps sum sums take tie undo unlike web yes" : Str) (" " : Str) = WORDS := bar_ev
  have t1 : ("all apart back beside book case differ fill free halves in like lone lucky mark marks next none of ones open out place" : Str).length = 118 := by decide +kernel
  have t2 : ("put quit rests rule span steps sum sums take tie undo unlike web yes" : Str).length = 68 := by decide +kernel
  have t3 : (Txt.split ("all apart back beside book case differ fill free halves in like lone lucky mark marks next none of ones open out place" : Str) (" " : Str)).length = 23 := by decide +kernel
  have t4 : (Txt.split ("put quit rests rule span steps sum sums take tie undo unlike web yes" : Str) (" " : Str)).length = 14 := by decide +kernel
  have l0 : (" " : Str).length = 1 := by decide +kernel
  rw [← fo__law_names_6_eq] at e
  simp [m__law_names_eq, strsD_app, c1, t1, t2, t3, t4, l0, sizeLine_eq, strsD_len] at e ⊢
  rw [show (D.lst ([] : List D)) = .lst (strsD []) from rfl, e]
  simp [ev_sorted (sortB_strs (l := found) (by omega)), q1]
end Nk83
set_option maxRecDepth 100000
set_option maxHeartbeats 2000000
namespace Nk83
open PySem DL
/-! ### webs -/
theorem Names.lt {ns : List Str} (h : Names ns) {a b : Nat} {x y : Str} (hab : a < b) (ha : ns[a]? = some x) (hb : ns[b]? = some y) : ltS x y = true := by
  obtain ⟨h1, rfl⟩ := List.getElem?_eq_some_iff.mp ha
  obtain ⟨h2, rfl⟩ := List.getElem?_eq_some_iff.mp hb
  exact List.pairwise_iff_getElem.mp h.asc a b h1 h2 hab
def RB (p q : Str × Str) : Prop := ltS p.2 q.2 = true ∨ (p.2 = q.2 ∧ ltS p.1 q.1 = true)
theorem RB.ne {p q : Str × Str} (h : RB p q) : p ≠ q := fun e => by
  subst e
  rcases h with h | ⟨_, h⟩
  · rw [ltS_irrefl] at h; cases h
  · rw [ltS_irrefl] at h; cases h
theorem lc_web_ev {μ : Mu} {i j : Nat} (B : Bows μ) (hi : i < μ.length) {ns : List Str} (hn : Names ns) {y : Str} (hj : ns[j]? = some y) (hl : ns.length ≤ 100) (often : Int) (a1 a4 a6 : Sl) (h6 : ∀ d, a6 ≠ .ow d) :
    ∃ (l : List (Str × Str)) (μ' : Mu), lc__law_web_1 [.fz (.mrf i), a1, .fz (.tup (strsD ns)), .fz (.int often), a4, .fz (.int j), a6] μ = .ok (.frs (.lst (l.map pairD))) [.fz (.mrf i), a1, .fz (.tup (strsD ns)), .fz (.int often), a4, .fz (.int j), a6] μ' ∧ Bows μ' ∧ μ'.length = μ.length ∧
      l.length ≤ j ∧ l.Pairwise RB ∧ ∀ p ∈ l, p.2 = y ∧ ∃ a, a < j ∧ ns[a]? = some p.1 := by
  rw [lc__law_web_1_eq]
  have jl : j < ns.length := (List.getElem?_eq_some_iff.mp hj).1
  obtain ⟨out, μ', e, l, rfl, B', l', ln, pw, mem⟩ := gLc_run (vs := [6]) (it := iRng1 (aCons (gName 5) aNil)) (tg := toName 6) (cnd := gB (g2 (hBool ltB) (gCall 2 m__law_draw (aCons (gName 0) (aCons (gC (.int 6)) aNil))) (gName 3))) (elt := gTup (aCons (g2 hIxA (gName 2) (gName 6)) (aCons (g2 hIxA (gName 2) (gName 5)) aNil)))
    (ρ0 := [.fz (.mrf i), a1, .fz (.tup (strsD ns)), .fz (.int often), a4, .fz (.int j), a6]) (ρ := [.fz (.mrf i), a1, .fz (.tup (strsD ns)), .fz (.int often), a4, .fz (.int j), a6]) (μ0 := μ) (μ := μ) (ds := rngD 0 j)
    (fun k acc μ' => ∃ l : List (Str × Str), acc = l.map pairD ∧ Bows μ' ∧ μ'.length = μ.length ∧ l.length ≤ k ∧ l.Pairwise RB ∧ ∀ p ∈ l, p.2 = y ∧ ∃ a, a < k ∧ ns[a]? = some p.1) (by
      exact rng1_ok (by simp) (by omega)) (by cases a6 <;> simp at h6 ⊢) (by rw [rng_len, sizeLine_eq]; omega) ⟨[], rfl, B, rfl, by simp, .nil, by simp⟩ (fun k d acc μ2 hd h => by
      obtain ⟨l, rfl, B2, l2, ln, pw, mem⟩ := h
      obtain ⟨rfl, hk⟩ := rng_get hd
      obtain ⟨q, μ3, e3, B3, l3, q1, q2⟩ := draw_ev B2 (i := i) (by omega) (many := 6) (by omega) (by omega)
      have kl : k < ns.length := by omega
      have hx : (strsD ns)[k]? = some (.str ns[k]) := by simp [strsD, kl]
      have hy : (strsD ns)[j]? = some (.str y) := by simp [strsD, hj]
      by_cases ho : q < often
      · refine ⟨some (pairD (ns[k], y)), [.fz (.mrf i), a1, .fz (.tup (strsD ns)), .fz (.int often), a4, .fz (.int j), .fz (.int k)], μ3, ?_, by simp, l ++ [(ns[k], y)], by simp [addD], B3, by omega, by simp; omega, ?_, ?_⟩
        · simp [e3, ho, at_nat, hx, hy, sizeLine_eq, pairD]
        · rw [List.pairwise_append]
          refine ⟨pw, by simp, fun p hp q hq => ?_⟩
          rw [List.mem_singleton.mp hq]
          obtain ⟨m1, a, m2, m3⟩ := mem p hp
          exact .inr ⟨m1, hn.lt m2 m3 (List.getElem?_eq_getElem kl)⟩
        · intro p hp
          rcases List.mem_append.mp hp with hp | hp
          · obtain ⟨m1, a, m2, m3⟩ := mem p hp
            exact ⟨m1, a, by omega, m3⟩
          · rw [List.mem_singleton.mp hp]
            exact ⟨rfl, k, by omega, List.getElem?_eq_getElem kl⟩
      · refine ⟨none, [.fz (.mrf i), a1, .fz (.tup (strsD ns)), .fz (.int often), a4, .fz (.int j), .fz (.int k)], μ3, ?_, by simp, l, by simp [addD], B3, by omega, by omega, pw, fun p hp => ?_⟩
        · simp [e3, ho]
        · obtain ⟨m1, a, m2, m3⟩ := mem p hp
          exact ⟨m1, a, by omega, m3⟩)
  rw [rng_len] at ln mem
  exact ⟨l, μ', e, B', l', ln, pw, mem⟩
structure Ties (ns : List Str) (ts : List (Str × Str)) : Prop where
  mem : ∀ p ∈ ts, p.1 ∈ ns ∧ p.2 ∈ ns ∧ ltS p.1 p.2 = true
  asc : ts.Pairwise fun p q => ltP p q = true
structure Webs (ns : List Str) (ts : List (Str × Str)) : Prop where
  names : Names ns
  n1 : 1 ≤ ns.length
  n5 : ns.length ≤ 5
  ties : Ties ns ts
  t5 : ts.length ≤ 5
def webD (ns : List Str) (ts : List (Str × Str)) : D := .tup [.tup (strsD ns), .tup (ts.map pairD)]
theorem web_loop {μ3 : Mu} {i : Nat} (B3 : Bows μ3) (hi : i < μ3.length) {ns : List Str} (hn : Names ns) (nl : ns.length ≤ 5) (often : Int) : ∃ (l : List (Str × Str)) (s5 : Sl) (μ4 : Mu), fo__law_web_3 [.fz (.mrf i), .fz (.int 5), .fz (.tup (strsD ns)), .fz (.int often), .ow (.lst []), .un, .un] μ3 = .nx [.fz (.mrf i), .fz (.int 5), .fz (.tup (strsD ns)), .fz (.int often), .ow (.lst (l.map pairD)), s5, .un] μ4 ∧
    Bows μ4 ∧ μ4.length = μ3.length ∧ l.length ≤ 1000 ∧ l.Pairwise RB ∧ ∀ p ∈ l, ∃ b, b < ns.length ∧ ns[b]? = some p.2 ∧ ∃ a, a < b ∧ ns[a]? = some p.1 := by
  rw [fo__law_web_3_eq]
  obtain ⟨ρ', μ4, e4, l, s5, rfl, B4, l4, ll, pw, mem⟩ := sFor_run (tg := toName 5) (body := fb__law_web_2) (it := iRng1 (aCons (g1 hLen (gName 2)) aNil))
    (ρ0 := [.fz (.mrf i), .fz (.int 5), .fz (.tup (strsD ns)), .fz (.int often), .ow (.lst (([] : List (Str × Str)).map pairD)), .un, .un]) (ρ := [.fz (.mrf i), .fz (.int 5), .fz (.tup (strsD ns)), .fz (.int often), .ow (.lst (([] : List (Str × Str)).map pairD)), .un, .un]) (μ0 := μ3) (μ := μ3) (ds := rngD 0 ns.length)
    (fun k ρ μ' => ∃ (l : List (Str × Str)) (s5 : Sl), ρ = [.fz (.mrf i), .fz (.int 5), .fz (.tup (strsD ns)), .fz (.int often), .ow (.lst (l.map pairD)), s5, .un] ∧ Bows μ' ∧ μ'.length = μ3.length ∧ l.length ≤ k * 10 ∧ l.Pairwise RB ∧ ∀ p ∈ l, ∃ b, b < k ∧ ns[b]? = some p.2 ∧ ∃ a, a < b ∧ ns[a]? = some p.1)
    (rng1_ok (by simp [strsD_len]) (by omega))
    ⟨[], .un, rfl, B3, by omega, by simp, .nil, by simp⟩ (fun k d ρ μ5 hd h => by
      obtain ⟨l, s5, rfl, B5, l5, ll, pw, mem⟩ := h
      obtain ⟨rfl, hk⟩ := rng_get hd
      have hj : ns[k]? = some ns[k] := List.getElem?_eq_getElem hk
      obtain ⟨m, μ6, e6, B6, l6, ml, mpw, mmem⟩ := lc_web_ev B5 (i := i) (by omega) hn hj (by omega) often (.fz (.int 5)) (.ow (.lst (l.map pairD))) .un (fun _ z => by cases z)
      have hll : l.length + m.length ≤ 16777216 := by omega
      refine ⟨_, _, [.fz (.mrf i), .fz (.int 5), .fz (.tup (strsD ns)), .fz (.int often), .ow (.lst ((l ++ m).map pairD)), .fz (.int k), .un], μ6, rfl, .inl ?_, l ++ m, _, rfl, B6, by omega, by simp; omega, ?_, ?_⟩
      · simp [fb__law_web_2_eq, e6, sizeLine_eq, hll]
      · rw [List.pairwise_append]
        refine ⟨pw, mpw, fun p hp q hq => ?_⟩
        obtain ⟨b, b1, b2, _⟩ := mem p hp
        obtain ⟨c1, _⟩ := mmem q hq
        refine .inl ?_
        rw [c1]
        exact hn.lt b1 b2 hj
      · intro p hp
        rcases List.mem_append.mp hp with hp | hp
        · obtain ⟨b, b1, b2⟩ := mem p hp
          exact ⟨b, by omega, b2⟩
        · obtain ⟨c1, c2⟩ := mmem p hp
          exact ⟨k, by omega, by rw [c1]; exact hj, c2⟩)
  rw [rng_len] at ll mem
  exact ⟨l, s5, μ4, e4, B4, l4, by omega, pw, mem⟩
theorem web_ev {μ : Mu} {i : Nat} (B : Bows μ) (hi : i < μ.length) : ∃ (ns : List Str) (ts : List (Str × Str)) (μ' : Mu), m__law_web [.mrf i, .int 5] μ = .ok (webD ns ts) μ' ∧ Bows μ' ∧ μ'.length = μ.length ∧ Webs ns ts := by
  obtain ⟨q, μ1, e1, B1, l1, q1, q2⟩ := draw_ev B hi (many := 5) (by omega) (by omega)
  obtain ⟨q, rfl⟩ := Int.eq_ofNat_of_zero_le q1
  obtain ⟨ns, μ2, e2, B2, l2, nl, hn⟩ := names_ev B1 (i := i) (by omega) (many := 1 + q) (by omega)
  obtain ⟨d, μ3, e3, B3, l3, hd⟩ := of_ev B2 (i := i) (by omega) (ds := [.int 2, .int 4, .int 5]) (by simp) (by simp)
  obtain ⟨often, rfl⟩ : ∃ often : Int, d = .int often := by
    simp at hd
    rcases hd with rfl | rfl | rfl <;> exact ⟨_, rfl⟩
  obtain ⟨l, s5, μ4, e, B4, l4, ll, pw, mem⟩ := web_loop B3 (i := i) (by omega) hn (by omega) often
  have nd : (l.take 5).Nodup := (pw.imp fun h => h.ne).sublist (List.take_sublist 5 l)
  obtain ⟨ts, q1, q2, q3⟩ := sort_pairs nd
  have tl : (l.take 5).length ≤ 5 := by rw [List.length_take]; omega
  refine ⟨ns, ts, μ4, ?_, B4, by omega, hn, by omega, by omega, ⟨fun p hp => ?_, q3⟩, by rw [q2.length_eq]; exact tl⟩
  ·
    have ec : L2.atI ([] : List D) 0 = none := rfl
    simp [m__law_web_eq, e1, sizeLine_eq]
    rw [show (1 + (q : Int)) = ((1 + q : Nat) : Int) by omega, e2]
    simp [e3, e]
    have ct : cutD (l.map pairD) none (some 5) = (l.take 5).map pairD := by
      rw [show (5 : Int) = ((5 : Nat) : Int) from rfl, cut_to, List.map_take]
    have es : ∀ ρ μ, hSorted (.lst (cutD (l.map pairD) none (some 5))) ρ μ = .ok (.frs (.lst (ts.map pairD))) ρ μ := fun ρ μ => by
      rw [ct, ev_sorted (sortB_pairs (l := l.take 5) (by omega)), q1]
    simp [e, es, webD, sizeLine_eq]
  · obtain ⟨b, b1, b2, a, a1, a2⟩ := mem p (List.mem_of_mem_take (q2.mem_iff.mp hp))
    exact ⟨List.mem_of_getElem? a2, List.mem_of_getElem? b2, hn.lt a1 a2 b2⟩
end Nk83
set_option maxRecDepth 100000
set_option maxHeartbeats 2000000
namespace Nk83
open PySem DL
/-! ### values -/
def lowB (x : Str) : Bool := x.cps.toList.all fun c => decide (c ∈ ALPHA.cps.toList)
theorem lowB_iff {x : Str} : lowB x = true ↔ Low x := by
  unfold lowB Low
  rw [List.all_eq_true]
  refine forall_congr' fun c => forall_congr' fun _ => ?_
  rw [decide_eq_true_eq, alpha_list]
  simp
  constructor
  · rintro ⟨a, h, rfl⟩; omega
  · intro h; exact ⟨c - 97, by omega, by omega⟩
theorem ok_low {x : Str} (h : Low x) : PyData.strOk x = true := by
  unfold PyData.strOk
  rw [← Array.all_toList, List.all_eq_true]
  intro c hc
  have := h c hc
  simp
  omega
theorem empty_ok : PyData.strOk Str.empty = true := by decide +kernel
@[simp] theorem cl_LETTERS : c_LETTERS = .str ALPHA := rfl
@[simp] theorem cl_WORDS : c_WORDS = .tup (strsD WORDS) := rfl
@[simp] theorem cl_MOST : c_MOST_LETTERS = .int 8 := rfl
theorem lc_word_ev {μ : Mu} {x : Str} (hl : x.length ≤ 1000000) : lc_is_word_1 [.fz (.str x), .un] μ = .ok (.frs (.lst (x.cps.toList.map fun c => .bl (decide (c ∈ ALPHA.cps.toList))))) [.fz (.str x), .un] μ := by
  have e : (x.cps.toList.map fun c => D.bl (decide (c ∈ ALPHA.cps.toList))) = (signsD x).map fun d => match d with
      | .str z => .bl (decide (z.cps.toList.headD 0 ∈ ALPHA.cps.toList))
      | d => d := by
    unfold signsD
    rw [List.map_map]
    exact List.map_congr_left fun c _ => rfl
  rw [e, lc_is_word_1_eq]
  refine gLc_map _ (by simp) (by simp) (by simp only [signsD, List.length_map]; rw [len_list] at hl; rw [sizeLine_eq]; omega) (fun d hd => ?_)
  obtain ⟨c, _, rfl⟩ := List.mem_map.mp (show d ∈ x.cps.toList.map fun c => D.str ⟨#[c]⟩ from hd)
  refine ⟨[.fz (.str x), .fz (.str ⟨#[c]⟩)], ?_, by simp⟩
  simp
theorem isStr {μ : Mu} (x : Str) : isiT cls "str" (tyOf μ (.str x)) = some true := by
  show L2.kitB "str" "str" = some true
  decide +kernel
theorem word_ev {μ : Mu} {x : Str} (hl : x.length ≤ 1000000) (ho : PyData.strOk x = true) : m_is_word [.str x] μ = .ok (.bl (!decide (x = Str.empty) && lowB x)) μ := by
  have ne : neB (.str x) (.str Str.empty) = some (!decide (x = Str.empty)) := ne_of (eq_str ho empty_ok)
  by_cases h : x = Str.empty
  · subst h
    have ne2 : neB (.str Str.empty) (.str Str.empty) = some false := by rw [ne]; simp
    simp [m_is_word_eq, isStr, empty_str, ne2]
  · simp [m_is_word_eq, isStr, empty_str, ne, h, lc_word_ev hl, all_map]
    simp [lowB]
theorem Low.word {x : Str} (h : Low x) (h1 : 1 ≤ x.length) (h2 : x.length ≤ 1000) (μ : Mu) : m_is_word [.str x] μ = .ok (.bl true) μ := by
  rw [word_ev (by omega) (ok_low h), lowB_iff.mpr h]
  have : x ≠ Str.empty := fun e => by rw [e] at h1; simp [Str.empty, Str.length] at h1
  simp [this]
theorem Good.name {x : Str} (h : Good x) (μ : Mu) : m_is_name [.str x] μ = .ok (.bl true) μ := by
  have h1 : x.length ≤ 16777216 := by have := h.le; omega
  have h2 : (x.length : Int) ≤ 8 := by have := h.le; omega
  simp [m_is_name_eq, h.low.word h.pos (by have := h.le; omega), h1, h2, h.nw, sizeLine_eq]
theorem plain_strs {l : List Str} (h : ∀ x ∈ l, PyData.strOk x = true) : plainD (.tup (strsD l)) := ⟨.tuple (l.map .str), by show (toPys _).map _ = _; rw [toPys_strs]; rfl, shaped_strs h⟩
theorem toPys_pairs : ∀ l : List (Str × Str), toPys (l.map pairD) = some (l.map fun p => .tuple [.str p.1, .str p.2])
  | [] => rfl
  | x :: l => by
    show (toPy (pairD x)).bind (fun p => (toPys (l.map pairD)).map (p :: ·)) = _
    rw [toPys_pairs l]
    rfl
theorem lay_pairs : ∀ {l : List (Str × Str)}, (∀ x ∈ l, PyData.strOk x.1 = true ∧ PyData.strOk x.2 = true) → PyData.canLayAll0 (l.map fun p => .tuple [.str p.1, .str p.2]) = true ∧ PyData.depthAll (l.map fun p => .tuple [.str p.1, .str p.2]) ≤ 1
  | [], _ => by simp [PyData.canLayAll0, PyData.depthAll]
  | x :: l, h => by
    obtain ⟨h1, h2⟩ := lay_pairs (l := l) (fun y hy => h y (List.mem_cons_of_mem _ hy))
    obtain ⟨h3, h4⟩ := h x (by simp)
    simp [PyData.canLayAll0, PyData.depthAll, PyData.canLay0, PyData.depth, h1, h3, h4]
    omega
theorem plain_pairs {l : List (Str × Str)} (h : ∀ x ∈ l, PyData.strOk x.1 = true ∧ PyData.strOk x.2 = true) : plainD (.tup (l.map pairD)) := by
  obtain ⟨h1, h2⟩ := lay_pairs h
  exact ⟨.tuple _, by show (toPys _).map _ = _; rw [toPys_pairs]; rfl, by simp [SeqAt.shaped, PyData.canLay0, PyData.depth, h1]; omega⟩
/-- the one behind is greater -/
theorem below_ev {μ : Mu} {ds : List D} {d v : D} (hp : plainD (.tup (ds ++ [d]))) (h : ltB d v = some true) (hv : seeD μ v = v) (hd : seeD μ d = d) : m_are_below [.tup (ds ++ [d]), v] μ = .ok (.bl true) μ := by
  have e := eq_nil_tup hp
  simp [m_are_below_eq, e, sizeLine_eq, at_last, hd, hv, h]
theorem below_nil {μ : Mu} {v : D} : m_are_below [.tup [], v] μ = .ok (.bl true) μ := by
  have e := eq_nil_tup (ds := []) ⟨.tuple [], rfl, by simp [SeqAt.shaped, PyData.canLay0, PyData.depth, PyData.canLayAll0, PyData.depthAll]⟩
  simp [m_are_below_eq, e, sizeLine_eq]
end Nk83
set_option maxRecDepth 100000
set_option maxHeartbeats 2000000
namespace Nk83
open PySem DL
/-! ### sets of names, ties -/
theorem isTup {μ : Mu} (x : List D) : isiT cls "tuple" (tyOf μ (.tup x)) = some true := by
  show L2.kitB "tuple" "tuple" = some true
  decide +kernel
theorem Names.oks {ns : List Str} (h : Names ns) : ∀ x ∈ ns, PyData.strOk x = true := fun x hx => ok_low (h.good x hx).low
theorem l0_ev {μ : Mu} (hc : Clean μ) {ns : List Str} (h : Names ns) {k : Nat} {x : Str} (hk : ns[k]? = some x) : lamF 0 2 lg_l0 [] [.tup (strsD (ns.take k)), .str x] μ = .ok (.bl true) μ := by
  have g := h.good x (List.mem_of_getElem? hk)
  have b : m_are_below [.tup (strsD (ns.take k)), .str x] μ = .ok (.bl true) μ := by
    cases k with
    | zero => exact below_nil
    | succ k =>
      obtain ⟨hk1, ex⟩ := List.getElem?_eq_some_iff.mp hk
      have e : ns.take (k + 1) = ns.take k ++ [ns[k]] := by rw [List.take_add_one, List.getElem?_eq_getElem (by omega)]; rfl
      rw [e, ← strsD_app]
      refine below_ev (ds := strsD (ns.take k)) (d := .str ns[k]) ?_ ?_ rfl rfl
      · have := plain_strs (l := ns.take k ++ [ns[k]]) (fun y hy => h.oks y (by rw [← e] at hy; exact List.mem_of_mem_take hy))
        rw [← strsD_app] at this
        exact this
      · rw [lt_str, h.lt (Nat.lt_succ_self k) (List.getElem?_eq_getElem (by omega)) hk]
  refine lam_ok rfl ?_ hc (ρ' := [.fz (.tup (strsD (ns.take k))), .fz (.str x)]) ?_
  · show (noCs _ (strsD (ns.take k)) && (true && true)) = true
    rw [noC_strs]; rfl
  · have hs : startL 2 [.tup (strsD (ns.take k)), .str x] [] = [.fz (.tup (strsD (ns.take k))), .fz (.str x)] := rfl
    rw [hs, lg_l0_eq]
    simp [g.name, b]
theorem sl_take {ρ ρ' : DL.Env} {μ μ' : Mu} {g lo : EF Vl} {ds : List D} {k : Nat} {x y : Vl} (hg : g ρ μ = .ok x ρ μ) (hx : con μ ρ x = some (.tup ds)) (hk : lo ρ μ = .ok y ρ μ) (hy : con μ ρ y = some (.int k)) : gSl g pNone (pSome lo) ρ μ = .ok (.val (.tup (ds.take k))) ρ μ := by
  simp [hg, hx, hk, hy]
theorem places_ev {μ : Mu} (hc : Clean μ) {ns : List Str} (h : Names ns) (h1 : 1 ≤ ns.length) (h7 : ns.length ≤ 7) : m_wrong_in_places [.tup (strsD ns)] μ = .ok (.lst []) μ := by
  have w : m_wrong_in_l0 [.tup (strsD ns), .int 1, .int 7, .clo 0 []] μ = .ok (.lst []) μ := by
    have lp : ∃ s4 s5, fo_wrong_in_l0_2 [.fz (.tup (strsD ns)), .fz (.int 1), .fz (.int 7), .fz (.clo 0 []), .un, .un] μ = .nx [.fz (.tup (strsD ns)), .fz (.int 1), .fz (.int 7), .fz (.clo 0 []), s4, s5] μ := by
      rw [fo_wrong_in_l0_2_eq]
      obtain ⟨ρ', μ', e, s4, s5, rfl, rfl⟩ := sFor_run (it := iEnm (aCons (gName 0) aNil)) (tg := toTup 2 (toCons (toName 4) (toCons (toName 5) toNil))) (body := fb_wrong_in_l0_1) (ρ0 := [.fz (.tup (strsD ns)), .fz (.int 1), .fz (.int 7), .fz (.clo 0 []), .un, .un]) (μ0 := μ) (μ := μ) (ρ := [.fz (.tup (strsD ns)), .fz (.int 1), .fz (.int 7), .fz (.clo 0 []), .un, .un]) (ds := pairsD (strsD ns))
        (fun k ρ μ' => ∃ s4 s5, ρ = [.fz (.tup (strsD ns)), .fz (.int 1), .fz (.int 7), .fz (.clo 0 []), s4, s5] ∧ μ' = μ) (by simp) ⟨_, _, rfl, rfl⟩ (fun k d ρ μ' hd hI => by
          obtain ⟨s4, s5, rfl, rfl⟩ := hI
          obtain ⟨x, hx, rfl⟩ := pairs_getD hd
          obtain ⟨z, hz, rfl⟩ : ∃ z, ns[k]? = some z ∧ x = .str z := by
            simp only [strsD, List.getElem?_map, Option.map_eq_some_iff] at hx
            obtain ⟨z, hz, rfl⟩ := hx
            exact ⟨z, hz, rfl⟩
          have hk := (List.getElem?_eq_some_iff.mp hz).1
          have k7 : ¬ ((k : Int) = 7) := by omega
          have t : (strsD ns).take k = strsD (ns.take k) := by simp [strsD]
          refine ⟨[.fz (.tup (strsD ns)), .fz (.int 1), .fz (.int 7), .fz (.clo 0 []), .fz (.int k), .fz (.str z)], μ', [.fz (.tup (strsD ns)), .fz (.int 1), .fz (.int 7), .fz (.clo 0 []), .fz (.int k), .fz (.str z)], μ', by simp, .inl ?_, _, _, rfl, rfl⟩
          have c := callS_ok (ρ := [.fz (.tup (strsD ns)), .fz (.int 1), .fz (.int 7), .fz (.clo 0 []), .fz (.int k), .fz (.str z)]) (ρ' := [.fz (.tup (strsD ns)), .fz (.int 1), .fz (.int 7), .fz (.clo 0 []), .fz (.int k), .fz (.str z)]) (μ1 := μ') (μ := μ') (i := 3) (n := 2) (disp := dp_l0) (t := aCons (gSl (gName 0) pNone (pSome (gName 4))) (aCons (gName 5) aNil)) rfl rfl (ds := [.tup (strsD (ns.take k)), .str z]) (by simp [t]) rfl (l0_ev hc h hz)
          rw [fb_wrong_in_l0_1_eq]
          simp [k7, c])
      exact ⟨s4, s5, e⟩
    obtain ⟨s4, s5, e⟩ := lp
    have h1' : ¬ ((ns.length : Int) < 1) := by omega
    simp [m_wrong_in_l0_eq, isTup, strsD_len, h1', e, sizeLine_eq]
  have c := callM_ok (ρ := [.fz (.tup (strsD ns))]) (μ := μ) (n := 4) (m := m_wrong_in_l0) (num := 0) (js := []) (ds := [.tup (strsD ns), .int 1, .int 7]) (env := []) rfl rfl w rfl hc
  have cm : c_MOST_PLACES = .int 7 := rfl
  simp [m_wrong_in_places_eq, cm, c]
end Nk83
set_option maxRecDepth 100000
set_option maxHeartbeats 2000000
namespace Nk83
open PySem DL
theorem one_of_ev {μ : Mu} {x : Str} {ns : List Str} (h : x ∈ ns) : m_is_one_of [.str x, .tup (strsD ns)] μ = .ok (.bl true) μ := by
  simp [m_is_one_of_eq, isStr, h]
theorem tie_ev {μ : Mu} {ns : List Str} {p : Str × Str} (h1 : p.1 ∈ ns) (h2 : p.2 ∈ ns) (h3 : ltS p.1 p.2 = true) : m_is_tie [.tup (strsD ns), pairD p] μ = .ok (.bl true) μ := by
  have e : m_is_tuple_of [pairD p, .int 2] μ = .ok (.bl true) μ := by
    unfold pairD
    simp [m_is_tuple_of_eq, isTup]
  have e2 : m_is_pair [pairD p] μ = .ok (.bl true) μ := by
    unfold pairD at e ⊢
    simp [m_is_pair_eq, e]
  unfold pairD at e2 ⊢
  simp [m_is_tie_eq, e2, L2.atI, L2.ixN, one_of_ev h1, one_of_ev h2, h3]
theorem Ties.oks {ns : List Str} {ts : List (Str × Str)} (hn : Names ns) (h : Ties ns ts) : ∀ p ∈ ts, PyData.strOk p.1 = true ∧ PyData.strOk p.2 = true := fun p hp => by
  obtain ⟨a, b, _⟩ := h.mem p hp
  exact ⟨hn.oks _ a, hn.oks _ b⟩
theorem l1_ev {μ : Mu} (hc : Clean μ) {ns : List Str} (hn : Names ns) {ts : List (Str × Str)} (h : Ties ns ts) {k : Nat} {p : Str × Str} (hk : ts[k]? = some p) : lamF 1 3 lg_l1 [.tup (strsD ns)] [.tup ((ts.take k).map pairD), pairD p] μ = .ok (.bl true) μ := by
  obtain ⟨g1, g2, g3⟩ := h.mem p (List.mem_of_getElem? hk)
  have b : m_are_below [.tup ((ts.take k).map pairD), pairD p] μ = .ok (.bl true) μ := by
    cases k with
    | zero => exact below_nil
    | succ k =>
      obtain ⟨hk1, ex⟩ := List.getElem?_eq_some_iff.mp hk
      have e : ts.take (k + 1) = ts.take k ++ [ts[k]] := by rw [List.take_add_one, List.getElem?_eq_getElem (by omega)]; rfl
      rw [e, List.map_append]
      refine below_ev (ds := (ts.take k).map pairD) (d := pairD ts[k]) ?_ ?_ rfl rfl
      · have := plain_pairs (l := ts.take k ++ [ts[k]]) (fun y hy => Ties.oks hn h y (by rw [← e] at hy; exact List.mem_of_mem_take hy))
        rw [List.map_append] at this
        exact this
      · rw [ltB_pair]
        have := List.pairwise_iff_getElem.mp h.asc k (k + 1) (by omega) hk1 (Nat.lt_succ_self k)
        rw [ex] at this
        rw [this]
  refine lam_ok ?_ ?_ hc (ρ' := [.fz (.tup ((ts.take k).map pairD)), .fz (pairD p), .fz (.tup (strsD ns))]) ?_
  · show (noCs _ (strsD ns) && true) = true
    rw [noC_strs]; rfl
  · show (noCs _ ((ts.take k).map pairD) && (noC _ (pairD p) && true)) = true
    rw [noC_pairs]; rfl
  · have hs : startL 3 [.tup ((ts.take k).map pairD), pairD p] [.tup (strsD ns)] = [.fz (.tup ((ts.take k).map pairD)), .fz (pairD p), .fz (.tup (strsD ns))] := rfl
    have sp : seeD μ (pairD p) = pairD p := rfl
    rw [hs, lg_l1_eq]
    simp [tie_ev g1 g2 g3, b, -List.map_take]
theorem ties_ev {μ : Mu} (hc : Clean μ) {ns : List Str} (hn : Names ns) {ts : List (Str × Str)} (h : Ties ns ts) (h10 : ts.length ≤ 10) : m_wrong_in_ties [.tup (strsD ns), .tup (ts.map pairD)] μ = .ok (.lst []) μ := by
  have w : m_wrong_in_l1 [.tup (ts.map pairD), .int 0, .int 10, .clo 1 [.tup (strsD ns)]] μ = .ok (.lst []) μ := by
    have lp : ∃ s4 s5, fo_wrong_in_l1_2 [.fz (.tup (ts.map pairD)), .fz (.int 0), .fz (.int 10), .fz (.clo 1 [.tup (strsD ns)]), .un, .un] μ = .nx [.fz (.tup (ts.map pairD)), .fz (.int 0), .fz (.int 10), .fz (.clo 1 [.tup (strsD ns)]), s4, s5] μ := by
      rw [fo_wrong_in_l1_2_eq]
      obtain ⟨ρ', μ', e, s4, s5, rfl, rfl⟩ := sFor_run (it := iEnm (aCons (gName 0) aNil)) (tg := toTup 2 (toCons (toName 4) (toCons (toName 5) toNil))) (body := fb_wrong_in_l1_1) (ρ0 := [.fz (.tup (ts.map pairD)), .fz (.int 0), .fz (.int 10), .fz (.clo 1 [.tup (strsD ns)]), .un, .un]) (μ0 := μ) (μ := μ) (ρ := [.fz (.tup (ts.map pairD)), .fz (.int 0), .fz (.int 10), .fz (.clo 1 [.tup (strsD ns)]), .un, .un]) (ds := pairsD (ts.map pairD))
        (fun k ρ μ' => ∃ s4 s5, ρ = [.fz (.tup (ts.map pairD)), .fz (.int 0), .fz (.int 10), .fz (.clo 1 [.tup (strsD ns)]), s4, s5] ∧ μ' = μ) (by simp) ⟨_, _, rfl, rfl⟩ (fun k d ρ μ' hd hI => by
          obtain ⟨s4, s5, rfl, rfl⟩ := hI
          obtain ⟨x, hx, rfl⟩ := pairs_getD hd
          obtain ⟨z, hz, rfl⟩ : ∃ z, ts[k]? = some z ∧ x = pairD z := by
            simp only [List.getElem?_map, Option.map_eq_some_iff] at hx
            obtain ⟨z, hz, rfl⟩ := hx
            exact ⟨z, hz, rfl⟩
          have hk := (List.getElem?_eq_some_iff.mp hz).1
          have k7 : ¬ ((k : Int) = 10) := by omega
          have t : (ts.map pairD).take k = (ts.take k).map pairD := by rw [List.map_take]
          refine ⟨[.fz (.tup (ts.map pairD)), .fz (.int 0), .fz (.int 10), .fz (.clo 1 [.tup (strsD ns)]), .fz (.int k), .fz (pairD z)], μ', [.fz (.tup (ts.map pairD)), .fz (.int 0), .fz (.int 10), .fz (.clo 1 [.tup (strsD ns)]), .fz (.int k), .fz (pairD z)], μ', by simp, .inl ?_, _, _, rfl, rfl⟩
          have c := callS_ok (ρ := [.fz (.tup (ts.map pairD)), .fz (.int 0), .fz (.int 10), .fz (.clo 1 [.tup (strsD ns)]), .fz (.int k), .fz (pairD z)]) (ρ' := [.fz (.tup (ts.map pairD)), .fz (.int 0), .fz (.int 10), .fz (.clo 1 [.tup (strsD ns)]), .fz (.int k), .fz (pairD z)]) (μ1 := μ') (μ := μ') (i := 3) (n := 2) (disp := dp_l1) (t := aCons (gSl (gName 0) pNone (pSome (gName 4))) (aCons (gName 5) aNil)) rfl rfl (ds := [.tup ((ts.take k).map pairD), pairD z]) (by simp) rfl (l1_ev hc hn h hz)
          rw [fb_wrong_in_l1_1_eq]
          simp [k7, c])
      exact ⟨s4, s5, e⟩
    obtain ⟨s4, s5, e⟩ := lp
    have h1' : ¬ ((ts.length : Int) < 0) := by omega
    simp [m_wrong_in_l1_eq, isTup, h1', e, sizeLine_eq]
  have c := callM_ok (ρ := [.fz (.tup (strsD ns)), .fz (.tup (ts.map pairD))]) (μ := μ) (n := 4) (m := m_wrong_in_l1) (num := 1) (js := [0]) (ds := [.tup (ts.map pairD), .int 0, .int 10]) (env := [.tup (strsD ns)]) rfl rfl w rfl hc
  have cm : c_MOST_TIES = .int 10 := rfl
  simp [m_wrong_in_ties_eq, cm, c]
/-! ### the web -/
def webF (ns : List Str) (ts : List (Str × Str)) : List (Str × D) := [("all_told", webD ns ts)]
def webO (ns : List Str) (ts : List (Str × Str)) : D := .obj "Web" (webF ns ts)
theorem Clean.app {μ : Mu} (h : Clean μ) {m : MO} (hm : ∀ p, noCm p m = true) : Clean (μ ++ [m]) := fun p => by
  rw [List.all_append, h p]
  simp [hm p]
theorem init_ev {μ : Mu} (hc : Clean μ) {ns : List Str} {ts : List (Str × Str)} (hn : Names ns) (h1 : 1 ≤ ns.length) (h7 : ns.length ≤ 7) (h : Ties ns ts) (h10 : ts.length ≤ 10) : m_Web___init__ [.mrf μ.length, .tup (strsD ns), .tup (ts.map pairD)] (μ ++ [.ins "Web" []]) = .ok .non (μ ++ [.ins "Web" (webF ns ts)]) := by
  have hc2 : Clean (μ ++ [.ins "Web" []]) := Clean.app hc fun p => rfl
  have a := places_ev hc2 hn h1 h7
  have b := ties_ev hc2 hn h h10
  have f1 : fo_Web___init___2 [.fz (.mrf μ.length), .fz (.tup (strsD ns)), .fz (.tup (ts.map pairD)), .un] (μ ++ [.ins "Web" []]) = .nx [.fz (.mrf μ.length), .fz (.tup (strsD ns)), .fz (.tup (ts.map pairD)), .un] (μ ++ [.ins "Web" []]) := by
    rw [fo_Web___init___2_eq]
    unfold sFor
    simp [a]
    rfl
  have f2 : fo_Web___init___4 [.fz (.mrf μ.length), .fz (.tup (strsD ns)), .fz (.tup (ts.map pairD)), .un] (μ ++ [.ins "Web" []]) = .nx [.fz (.mrf μ.length), .fz (.tup (strsD ns)), .fz (.tup (ts.map pairD)), .un] (μ ++ [.ins "Web" []]) := by
    rw [fo_Web___init___4_eq]
    unfold sFor
    simp [b]
    rfl
  have f3 := fldS_ok (C := "Web") (f := "all_told") (gv := gTup (aCons (gName 1) (aCons (gName 2) aNil))) (go := gName 0) (ρ := [.fz (.mrf μ.length), .fz (.tup (strsD ns)), .fz (.tup (ts.map pairD)), .un]) (ρ' := [.fz (.mrf μ.length), .fz (.tup (strsD ns)), .fz (.tup (ts.map pairD)), .un]) (ρ2 := [.fz (.mrf μ.length), .fz (.tup (strsD ns)), .fz (.tup (ts.map pairD)), .un]) (μ := μ ++ [.ins "Web" []]) (μ1 := μ ++ [.ins "Web" []]) (μ2 := μ ++ [.ins "Web" []]) (k := μ.length) (d := webD ns ts) (fs := []) (by simp [sizeLine_eq, webD]) (by simp) (by simp) (by simp)
  have e : (μ ++ [MO.ins "Web" []]).set μ.length (.ins "Web" (putD "all_told" (webD ns ts) [])) = μ ++ [.ins "Web" (webF ns ts)] := by
    rw [List.set_append_right _ _ (Nat.le_refl _), Nat.sub_self]
    rfl
  rw [e] at f3
  simp [m_Web___init___eq, f1, f2, f3]
theorem Bows.clean {μ : Mu} (B : Bows μ) : Clean μ := fun p => by
  rw [List.all_eq_true]
  intro m hm
  obtain ⟨a, b, c, rfl⟩ := B m hm
  rfl
theorem Bows.noref {μ : Mu} (B : Bows μ) (k : Nat) : μ.all (noRm k) = true := by
  rw [List.all_eq_true]
  intro m hm
  obtain ⟨a, b, c, rfl⟩ := B m hm
  rfl
theorem noR_strs (k : Nat) : ∀ l : List Str, noRs k (strsD l) = true
  | [] => rfl
  | x :: l => by
    show (noR k (.str x) && noRs k (strsD l)) = true
    rw [noR_strs k l]; rfl
theorem noR_pairs (k : Nat) : ∀ l : List (Str × Str), noRs k (l.map pairD) = true
  | [] => rfl
  | x :: l => by
    show (noR k (pairD x) && noRs k (l.map pairD)) = true
    rw [noR_pairs k l]; rfl
theorem noR_web (k : Nat) (ns : List Str) (ts : List (Str × Str)) : noRf k (webF ns ts) = true := by
  show ((noRs k (strsD ns) && (noRs k (ts.map pairD) && true)) && true) = true
  rw [noR_strs, noR_pairs]; rfl
theorem made_ev {μ : Mu} (B : Bows μ) {ns : List Str} {ts : List (Str × Str)} (w : Webs ns ts) : m__law_made [webD ns ts] μ = .ok (webO ns ts) μ := by
  have k := make_ok (C := "Web") (n := 3) (m := m_Web___init__) (t := aCons (g2 hIx (gName 0) (gC (.int 0))) (aCons (g2 hIx (gName 0) (gC (.int 1))) aNil)) (ρ := [.fz (webD ns ts)]) (ρ' := [.fz (webD ns ts)]) (μ := μ) (μ1 := μ) (ds := [.tup (strsD ns), .tup (ts.map pairD)]) (by simp [webD, L2.atI, L2.ixN]) rfl (init_ev B.clean w.names w.n1 (by have := w.n5; omega) w.ties (by have := w.t5; omega)) (noR_web _ ns ts) (B.noref _)
  simp [m__law_made_eq, k]
  rfl
end Nk83
set_option maxRecDepth 100000
set_option maxHeartbeats 4000000
namespace Nk83
open PySem DL
/-! ### rows -/
def sPlace : Str := "place"
def sTie : Str := "tie"
def sRule : Str := "rule"
def sOpen : Str := "open"
def sLike : Str := "like"
def sUnlike : Str := "unlike"
def sOnes : Str := "ones"
def sp : Str := ⟨#[32]⟩
theorem sp_eq : (" " : Str) = sp := by decide +kernel
def numW (n : Int) : Str := ((toString n : String) : Str)
def markW : Option Int → Str
  | none => sOpen
  | some n => numW n
def MarkOk (o : Option Int) : Prop := o = none ∨ ∃ n : Int, o = some n ∧ 0 ≤ n ∧ n < 12
structure Rul (r : Str) : Prop where
  mem : r ∈ RULES
theorem rule_len : ∀ r ∈ RULES, r.length ≤ 6 ∧ lowB r = true := by decide +kernel
theorem Rul.len {r : Str} (h : Rul r) : r.length ≤ 6 := (rule_len r h.mem).1
theorem Rul.low {r : Str} (h : Rul r) : Low r := lowB_iff.mp (rule_len r h.mem).2
def isL (r : Str) : Bool := decide (r = sLike)
def isU (r : Str) : Bool := decide (r = sUnlike) || decide (r = sOnes)
theorem rule_three : ∀ r ∈ RULES, (isL r = true ∧ isU r = false) ∨ (isL r = false ∧ isU r = true) ∨ (isL r = false ∧ isU r = false) := by decide +kernel
/-- how many marks -/
def sizeOf (r : Str) (N Q : Nat) : Nat := if isL r then N + Q else if isU r then Q else N
/-- the marks' words of a place, of a tie -/
def pmk (r : Str) (told : List (Option Int)) (i : Nat) : List Str := if isU r then [] else [markW (told[i]?.getD none)]
def tmk (r : Str) (N : Nat) (told : List (Option Int)) (k : Nat) : List Str := if isL r then [markW (told[N + k]?.getD none)] else if isU r then [markW (told[k]?.getD none)] else []
def rowP (ns : List Str) (r : Str) (told : List (Option Int)) (i : Nat) : List Str := [sPlace, ns[i]?.getD Str.empty] ++ pmk r told i
def rowT (ns : List Str) (ts : List (Str × Str)) (r : Str) (told : List (Option Int)) (k : Nat) : List Str := [sTie, (ts[k]?.getD (Str.empty, Str.empty)).1, (ts[k]?.getD (Str.empty, Str.empty)).2] ++ tmk r ns.length told k
def rowsW (ns : List Str) (ts : List (Str × Str)) (r : Str) (told : List (Option Int)) : List (List Str) := [sRule, r] :: ((List.range ns.length).map (rowP ns r told) ++ (List.range ts.length).map (rowT ns ts r told))
def text (ns : List Str) (ts : List (Str × Str)) (r : Str) (told : List (Option Int)) : List Str := (rowsW ns ts r told).map (Str.join sp)
/-! numbers as words -/
theorem num_few : ∀ n : Fin 12, (numW (n.val : Int)).length ≤ 2 ∧ 1 ≤ (numW (n.val : Int)).length ∧ ((numW (n.val : Int)).cps.toList.all fun c => decide (48 ≤ c) && decide (c ≤ 57)) = true ∧ (numW (n.val : Int) = ("0" : Str) ∨ (numW (n.val : Int)).cps.toList.headD 0 ≠ 48) := by decide +kernel
structure NumW (x : Str) : Prop where
  pos : 1 ≤ x.length
  le : x.length ≤ 2
  fig : ∀ c ∈ x.cps.toList, 48 ≤ c ∧ c ≤ 57
  lead : x = ("0" : Str) ∨ x.cps.toList.headD 0 ≠ 48
theorem num_ok {n : Int} (h : 0 ≤ n) (h2 : n < 12) : NumW (numW n) := by
  obtain ⟨k, rfl⟩ := Int.eq_ofNat_of_zero_le h
  obtain ⟨a, b, c, d⟩ := num_few ⟨k, by omega⟩
  refine ⟨b, a, fun x hx => ?_, d⟩
  have := List.all_eq_true.mp c x hx
  simpa using this
theorem num_back {n : Int} (h : 0 ≤ n) (h2 : n < 12) : PySem.intText? (numW n) = some n := PySem.W.KIN.num_reads h (by omega)
theorem mark_no32 {o : Option Int} (h : MarkOk o) : 32 ∉ (markW o).cps.toList := by
  rcases h with rfl | ⟨n, rfl, h1, h2⟩
  · show 32 ∉ sOpen.cps.toList
    decide +kernel
  · intro z
    have := (num_ok h1 h2).fig 32 z
    omega
theorem mark_len {o : Option Int} (h : MarkOk o) : (markW o).length ≤ 4 := by
  rcases h with rfl | ⟨n, rfl, h1, h2⟩
  · show sOpen.length ≤ 4
    decide +kernel
  · have := (num_ok h1 h2).le
    show (numW n).length ≤ 4
    omega
theorem mark_ok {o : Option Int} (h : MarkOk o) : PyData.strOk (markW o) = true := by
  rcases h with rfl | ⟨n, rfl, h1, h2⟩
  · show PyData.strOk sOpen = true
    decide +kernel
  · unfold PyData.strOk
    rw [← Array.all_toList, List.all_eq_true]
    intro c hc
    have := (num_ok h1 h2).fig c hc
    simp
    omega
theorem Low.no32 {x : Str} (h : Low x) : 32 ∉ x.cps.toList := fun z => by
  have := h 32 z
  omega
/-- a told mark's text -/
theorem str_mark {n : Int} (h : 0 ≤ n) (h2 : n < 12) : strD (.int n) = some (.str (numW n)) := by
  have : n.natAbs.log2 < 1920 := by
    obtain ⟨k, rfl⟩ := Int.eq_ofNat_of_zero_le h
    have : k < 2 ^ 1920 := Nat.lt_of_lt_of_le (show k < 2 ^ 4 by omega) (Nat.pow_le_pow_right (by omega) (by omega))
    by_cases hk : k = 0
    · subst hk; simp
    · exact (Nat.log2_lt (by simpa using hk)).mpr (by simpa using this)
  show (if n.natAbs.log2 < 1920 then some (D.str (numW n)) else none) = _
  rw [if_pos this]
end Nk83
set_option maxRecDepth 100000
set_option maxHeartbeats 4000000
namespace Nk83
open PySem DL
/-! ### the law's own text -/
theorem in2 (x a b : Str) : inB (.str x) (.tup [.str a, .str b]) = some (decide (x = a) || decide (x = b)) := by
  have := in_tup x [a, b]
  rw [show (D.tup [.str a, .str b]) = .tup (strsD [a, b]) from rfl, this]
  by_cases h : x = a <;> by_cases h2 : x = b <;> simp [h, h2]
theorem nin2 (x a b : Str) : notInB (.str x) (.tup [.str a, .str b]) = some (!(decide (x = a) || decide (x = b))) := by
  unfold notInB
  rw [in2]
  rfl
theorem inU (r : Str) : inB (.str r) (.tup [.str ("unlike" : Str), .str ("ones" : Str)]) = some (isU r) := in2 r _ _
theorem ninU (r : Str) : notInB (.str r) (.tup [.str ("unlike" : Str), .str ("ones" : Str)]) = some (!isU r) := nin2 r _ _
theorem eqL {r : Str} (h : Rul r) : eqB (.str r) (.str ("like" : Str)) = some (isL r) := eq_str (ok_low h.low) (by decide +kernel)
theorem size_ev {μ : Mu} {ns : List Str} {ts : List (Str × Str)} {r : Str} (h : Rul r) : m__law_size [webD ns ts, .str r] μ = .ok (.int (sizeOf r ns.length ts.length : Nat)) μ := by
  unfold sizeOf
  rcases rule_three r h.mem with ⟨a, b⟩ | ⟨a, b⟩ | ⟨a, b⟩
  · simp [m__law_size_eq, webD, eqL h, a, L2.atI, L2.ixN, strsD_len]
  · simp [m__law_size_eq, webD, eqL h, inU, a, b, L2.atI, L2.ixN, strsD_len, sizeLine_eq]
  · simp [m__law_size_eq, webD, eqL h, inU, a, b, L2.atI, L2.ixN, strsD_len, sizeLine_eq]
def wdW (o : Option Int) : Str := sp ++ markW o
theorem map_opts (f : D → D) (g : Option Int → Str) (h : ∀ o, f (optD o) = .str (g o)) (told : List (Option Int)) : (told.map optD).map f = strsD (told.map g) := by
  rw [List.map_map, strsD, List.map_map]
  exact List.map_congr_left fun o _ => h o
theorem lc_text1_ev {μ : Mu} {told : List (Option Int)} (h : ∀ o ∈ told, MarkOk o) (hl : told.length ≤ 100) (a0 a1 : Sl) (a5 a6 a7 a8 a9 : Sl) : lc__law_text_1 [a0, a1, .fz (.tup (told.map optD)), .un, .un, a5, a6, a7, a8, a9] μ = .ok (.frs (.lst (strsD (told.map wdW)))) [a0, a1, .fz (.tup (told.map optD)), .un, .un, a5, a6, a7, a8, a9] μ := by
  rw [← map_opts (fun d => match d with
    | .int n => .str (wdW (some n))
    | _ => .str (wdW none)) wdW (fun o => by cases o <;> rfl) told, lc__law_text_1_eq]
  refine gLc_map _ (by simp) (by simp) (by rw [List.length_map, sizeLine_eq]; omega) (fun d hd => ?_)
  obtain ⟨o, ho, rfl⟩ := List.mem_map.mp hd
  rcases h o ho with rfl | ⟨n, rfl, h1, h2⟩
  · refine ⟨[a0, a1, .fz (.tup (told.map optD)), .un, .fz .non, a5, a6, a7, a8, a9], ?_, by simp⟩
    have e : (" open" : Str) = wdW none := by decide +kernel
    simp [optD, e]
  · refine ⟨[a0, a1, .fz (.tup (told.map optD)), .un, .fz (.int n), a5, a6, a7, a8, a9], ?_, by simp⟩
    have l1 : (numW n).length ≤ 2 := (num_ok h1 h2).le
    have l2 : sp.length = 1 := rfl
    have l3 : sp.length + (numW n).length ≤ 16777216 := by omega
    simp [optD, str_mark h1 h2, sp_eq, sizeLine_eq, l3]
    rfl
/-- what stands behind a place, a tie -/
def tail (m : List Str) : Str := match m with
  | [] => Str.empty
  | w :: _ => sp ++ w
def placesT (ns here : List Str) : List Str := (List.range ns.length).map fun i => sPlace ++ sp ++ (ns[i]?.getD Str.empty) ++ (here[i]?.getD Str.empty)
def tiesT (ts : List (Str × Str)) (there : List Str) : List Str := (List.range ts.length).map fun i => sTie ++ sp ++ (ts[i]?.getD (Str.empty, Str.empty)).1 ++ sp ++ (ts[i]?.getD (Str.empty, Str.empty)).2 ++ (there[i]?.getD Str.empty)
theorem placesT_len (ns here : List Str) : (placesT ns here).length = ns.length := by simp [placesT]
theorem tiesT_len (ts : List (Str × Str)) (there : List Str) : (tiesT ts there).length = ts.length := by simp [tiesT]
theorem lc_text2_ev {μ : Mu} {ns : List Str} {ts : List (Str × Str)} {here : List Str} (hn : Names ns) (h5 : ns.length ≤ 5) (hh : ns.length ≤ here.length) (hl : ∀ x ∈ here, x.length ≤ 10) (a1 a2 a3 a4 a6 a7 a9 : Sl) :
    lc__law_text_2 [.fz (webD ns ts), a1, a2, a3, a4, .fz (.lst (strsD here)), a6, a7, .un, a9] μ = .ok (.frs (.lst (strsD (placesT ns here)))) [.fz (webD ns ts), a1, a2, a3, a4, .fz (.lst (strsD here)), a6, a7, .un, a9] μ := by
  unfold placesT
  have e : strsD ((List.range ns.length).map fun i => sPlace ++ sp ++ (ns[i]?.getD Str.empty) ++ (here[i]?.getD Str.empty)) = (rngD 0 ns.length).map fun d => match d with
      | .int n => .str (sPlace ++ sp ++ (ns[n.toNat]?.getD Str.empty) ++ (here[n.toNat]?.getD Str.empty))
      | d => d := by
    unfold rngD strsD
    rw [List.map_map, List.map_map]
    exact List.map_congr_left fun i _ => by simp
  rw [e, lc__law_text_2_eq]
  refine gLc_map _ (rng1_ok (by simp [webD, L2.atI, L2.ixN, strsD_len]) (by omega)) (by simp) (by rw [rng_len, sizeLine_eq]; omega) (fun d hd => ?_)
  obtain ⟨i, hi0⟩ := List.getElem?_of_mem hd
  obtain ⟨rfl, hi⟩ := rng_get hi0
  have h1 : (strsD ns)[i]? = some (.str ns[i]) := by simp [strsD, hi]
  have h2 : (strsD here)[i]? = some (.str here[i]) := by simp [strsD, show i < here.length by omega]
  have g1 : ns[i]? = some ns[i] := List.getElem?_eq_getElem hi
  have g2 : here[i]? = some here[i] := List.getElem?_eq_getElem (by omega)
  have n1 := (hn.good ns[i] (List.getElem_mem hi)).le
  have n2 := hl here[i] (List.getElem_mem (by omega))
  have ep : ("place " : Str) = sPlace ++ sp := by decide +kernel
  have lp : (sPlace ++ sp).length = 6 := by decide +kernel
  refine ⟨[.fz (webD ns ts), a1, a2, a3, a4, .fz (.lst (strsD here)), a6, a7, .fz (.int i), a9], ?_, by simp⟩
  have q1 : 6 + ns[i].length ≤ 16777216 := by omega
  have q2 : 6 + ns[i].length + here[i].length ≤ 16777216 := by omega
  have lp2 : (sPlace ++ sp ++ ns[i]).length = 6 + ns[i].length := by rw [len_app, lp]
  simp [webD, show L2.atI [D.tup (strsD ns), .tup (ts.map pairD)] 0 = some (.tup (strsD ns)) from rfl, at_nat, h1, h2, g1, g2, ep, lp, lp2, sizeLine_eq, q1, q2]
theorem lc_text3_ev {μ : Mu} {ns : List Str} {ts : List (Str × Str)} {there : List Str} (hw : Webs ns ts) (hh : ts.length ≤ there.length) (hl : ∀ x ∈ there, x.length ≤ 10) (a1 a2 a3 a4 a5 a7 a8 : Sl) :
    lc__law_text_3 [.fz (webD ns ts), a1, a2, a3, a4, a5, .fz (.lst (strsD there)), a7, a8, .un] μ = .ok (.frs (.lst (strsD (tiesT ts there)))) [.fz (webD ns ts), a1, a2, a3, a4, a5, .fz (.lst (strsD there)), a7, a8, .un] μ := by
  unfold tiesT
  have e : strsD ((List.range ts.length).map fun i => sTie ++ sp ++ (ts[i]?.getD (Str.empty, Str.empty)).1 ++ sp ++ (ts[i]?.getD (Str.empty, Str.empty)).2 ++ (there[i]?.getD Str.empty)) = (rngD 0 ts.length).map fun d => match d with
      | .int n => .str (sTie ++ sp ++ (ts[n.toNat]?.getD (Str.empty, Str.empty)).1 ++ sp ++ (ts[n.toNat]?.getD (Str.empty, Str.empty)).2 ++ (there[n.toNat]?.getD Str.empty))
      | d => d := by
    unfold rngD strsD
    rw [List.map_map, List.map_map]
    exact List.map_congr_left fun i _ => by simp
  have t5 := hw.t5
  rw [e, lc__law_text_3_eq]
  refine gLc_map _ (rng1_ok (by simp [webD, L2.atI, L2.ixN]) (by omega)) (by simp) (by rw [rng_len, sizeLine_eq]; omega) (fun d hd => ?_)
  obtain ⟨i, hi0⟩ := List.getElem?_of_mem hd
  obtain ⟨rfl, hi⟩ := rng_get hi0
  have h1 : (ts.map pairD)[i]? = some (pairD ts[i]) := by rw [List.getElem?_map, List.getElem?_eq_getElem hi]; rfl
  have h2 : (strsD there)[i]? = some (.str there[i]) := by simp [strsD, show i < there.length by omega]
  have g1 : ts[i]? = some ts[i] := List.getElem?_eq_getElem hi
  have g2 : there[i]? = some there[i] := List.getElem?_eq_getElem (by omega)
  obtain ⟨m1, m2, _⟩ := hw.ties.mem ts[i] (List.getElem_mem hi)
  have n1 := (hw.names.good _ m1).le
  have n3 := (hw.names.good _ m2).le
  have n2 := hl there[i] (List.getElem_mem (by omega))
  have ep : ("tie " : Str) = sTie ++ sp := by decide +kernel
  have lp : (sTie ++ sp).length = 4 := by decide +kernel
  have ls : sp.length = 1 := rfl
  refine ⟨[.fz (webD ns ts), a1, a2, a3, a4, a5, .fz (.lst (strsD there)), a7, a8, .fz (.int i)], ?_, by simp⟩
  have l1 : (sTie ++ sp ++ ts[i].1).length = 4 + ts[i].1.length := by rw [len_app, lp]
  have l2 : (sTie ++ sp ++ ts[i].1 ++ sp).length = 4 + ts[i].1.length + 1 := by rw [len_app, l1, ls]
  have l3 : (sTie ++ sp ++ ts[i].1 ++ sp ++ ts[i].2).length = 4 + ts[i].1.length + 1 + ts[i].2.length := by rw [len_app, l2]
  have q1 : 4 + ts[i].1.length ≤ 16777216 := by omega
  have q2 : 4 + ts[i].1.length ≤ 16777215 := by omega
  have q3 : 4 + ts[i].1.length + 1 + ts[i].2.length ≤ 16777216 := by omega
  have q4 : 4 + ts[i].1.length + 1 + ts[i].2.length + there[i].length ≤ 16777216 := by omega
  have i0 : L2.atI [D.str ts[i].1, .str ts[i].2] 0 = some (.str ts[i].1) := rfl
  have i1 : L2.atI [D.str ts[i].1, .str ts[i].2] 1 = some (.str ts[i].2) := rfl
  simp [webD, show L2.atI [D.tup (strsD ns), .tup (ts.map pairD)] 1 = some (.tup (ts.map pairD)) from rfl, at_nat, h1, h2, g1, g2, ep, lp, l1, l2, l3, ls, sp_eq, sizeLine_eq, q1, q2, q3, q4, pairD, i0, i1]
end Nk83
set_option maxRecDepth 100000
set_option maxHeartbeats 4000000
namespace Nk83
open PySem DL
theorem join2 (a b : Str) : Str.join sp [a, b] = a ++ sp ++ b := rfl
theorem join3 (a b c : Str) : Str.join sp [a, b, c] = a ++ sp ++ b ++ (sp ++ c) := by
  show a ++ sp ++ (b ++ sp ++ c) = _
  exact str_ext (by simp)
theorem join3' (a b c : Str) : Str.join sp [a, b, c] = a ++ sp ++ b ++ sp ++ c := by
  show a ++ sp ++ (b ++ sp ++ c) = _
  exact str_ext (by simp)
theorem join4 (a b c d : Str) : Str.join sp [a, b, c, d] = a ++ sp ++ b ++ sp ++ c ++ (sp ++ d) := by
  show a ++ sp ++ (b ++ sp ++ (c ++ sp ++ d)) = _
  exact str_ext (by simp)
theorem rep_str (x : Str) : ∀ k, repD k [.str x] = strsD (List.replicate k x)
  | 0 => rfl
  | k + 1 => by
    show (List.replicate (k + 1) [D.str x]).flatten = _
    rw [List.replicate_succ, List.flatten_cons]
    show [D.str x] ++ repD k [.str x] = _
    rw [rep_str x k]
    rfl
theorem wdW_len {o : Option Int} (h : MarkOk o) : (wdW o).length ≤ 5 := by
  unfold wdW
  rw [len_app]
  have := mark_len h
  have : sp.length = 1 := rfl
  omega
theorem wds_at {told : List (Option Int)} {i : Nat} (h : i < told.length) : (told.map wdW)[i]?.getD Str.empty = sp ++ markW (told[i]?.getD none) := by
  simp [h, wdW]
theorem rep_at {k i : Nat} : (List.replicate k Str.empty)[i]?.getD Str.empty = Str.empty := by
  rw [List.getElem?_replicate]
  split <;> rfl
theorem text_ev {μ : Mu} {ns : List Str} {ts : List (Str × Str)} {r : Str} {told : List (Option Int)} (w : Webs ns ts) (hr : Rul r) (hm : ∀ o ∈ told, MarkOk o) (hl : told.length = sizeOf r ns.length ts.length) : m__law_text [webD ns ts, .str r, .tup (told.map optD)] μ = .ok (.tup (strsD (text ns ts r told))) μ := by
  have n5 := w.n5
  have t5 := w.t5
  have hl10 : told.length ≤ 10 := by
    rw [hl]; unfold sizeOf
    split
    · omega
    · split <;> omega
  have erl : ("rule " : Str) = sRule ++ sp := by decide +kernel
  have lrl : (sRule ++ sp).length = 5 := by decide +kernel
  have rl := hr.len
  have q0 : 5 + r.length ≤ 16777216 := by omega
  have w5 : ∀ x ∈ told.map wdW, x.length ≤ 10 := fun x hx => by
    obtain ⟨o, ho, rfl⟩ := List.mem_map.mp hx
    have := wdW_len (hm o ho)
    omega
  have e5 : ∀ k, ∀ x ∈ List.replicate k Str.empty, x.length ≤ 10 := fun k x hx => by
    rw [(List.mem_replicate.mp hx).2]
    decide
  have t1 := fun a0 a1 a5 a6 a7 a8 a9 => lc_text1_ev (μ := μ) hm (by omega) a0 a1 a5 a6 a7 a8 a9
  have i0 : L2.atI [D.tup (strsD ns), .tup (ts.map pairD)] 0 = some (.tup (strsD ns)) := rfl
  have i1 : L2.atI [D.tup (strsD ns), .tup (ts.map pairD)] 1 = some (.tup (ts.map pairD)) := rfl
  have nl : (strsD ns).length = ns.length := strsD_len ns
  have s1 : ns.length ≤ 16777215 := by omega
  have s3 : ns.length + 1 + ts.length ≤ 16777216 := by omega
  have s4 : 1 + ns.length ≤ 16777216 := by omega
  have s2 : 1 + ns.length + ts.length ≤ 16777216 := by omega
  have fin : ∀ (here there : List Str), (∀ i, i < ns.length → sPlace ++ sp ++ (ns[i]?.getD Str.empty) ++ (here[i]?.getD Str.empty) = Str.join sp (rowP ns r told i)) → (∀ i, i < ts.length → sTie ++ sp ++ (ts[i]?.getD (Str.empty, Str.empty)).1 ++ sp ++ (ts[i]?.getD (Str.empty, Str.empty)).2 ++ (there[i]?.getD Str.empty) = Str.join sp (rowT ns ts r told i)) →
      D.str (sRule ++ sp ++ r) :: (strsD (placesT ns here) ++ strsD (tiesT ts there)) = strsD (text ns ts r told) := fun here there h1 h2 => by
    unfold text rowsW placesT tiesT
    rw [List.map_cons, List.map_append, List.map_map, List.map_map, join2, strsD_app]
    show D.str _ :: strsD _ = D.str _ :: strsD _
    congr 3
    · exact List.map_congr_left fun i hi => h1 i (List.mem_range.mp hi)
    · exact List.map_congr_left fun i hi => h2 i (List.mem_range.mp hi)
  rcases rule_three r hr.mem with ⟨a, b⟩ | ⟨a, b⟩ | ⟨a, b⟩
  · have hl2 : told.length = ns.length + ts.length := by rw [hl]; unfold sizeOf; rw [a]; rfl
    have c1 : cutD (strsD (told.map wdW)) (some (ns.length : Int)) none = strsD ((told.map wdW).drop ns.length) := by rw [cut_from]; simp [strsD]
    have t2 := fun a1 a2 a3 a4 a6 a7 a9 => lc_text2_ev (μ := μ) (ts := ts) (here := told.map wdW) w.names n5 (by rw [List.length_map]; omega) w5 a1 a2 a3 a4 a6 a7 a9
    have t3 := fun a1 a2 a3 a4 a5 a7 a8 => lc_text3_ev (μ := μ) (there := (told.map wdW).drop ns.length) w (by simp; omega) (fun x hx => w5 x (List.mem_of_mem_drop hx)) a1 a2 a3 a4 a5 a7 a8
    have f := fin (told.map wdW) ((told.map wdW).drop ns.length) (fun i hi => by
      rw [wds_at (by omega)]
      unfold rowP pmk
      rw [b]
      show _ = Str.join sp [_, _, _]
      rw [join3]) (fun i hi => by
      rw [List.getElem?_drop, wds_at (by omega)]
      unfold rowT tmk
      rw [a]
      show _ = Str.join sp [_, _, _, _]
      rw [join4])
    have p1 := placesT_len ns (told.map wdW)
    have p2 := tiesT_len ts ((told.map wdW).drop ns.length)
    unfold webD at t1 t2 t3 ⊢
    generalize placesT ns (told.map wdW) = P at *
    generalize tiesT ts ((told.map wdW).drop ns.length) = T at *
    simp [m__law_text_eq, t1, ninU, eqL hr, a, b, c1, i0, i1, nl, erl, lrl, q0, sizeLine_eq, -List.map_drop]
    simp [t2, t3, strsD_len, p1, p2, s1, s2, s3, s4, sizeLine_eq, -List.map_drop, f]
  · have hl2 : told.length = ts.length := by rw [hl]; unfold sizeOf; rw [a, b]; rfl
    have t2 := fun a1 a2 a3 a4 a6 a7 a9 => lc_text2_ev (μ := μ) (ts := ts) (here := List.replicate ns.length Str.empty) w.names n5 (by simp) (e5 _) a1 a2 a3 a4 a6 a7 a9
    have t3 := fun a1 a2 a3 a4 a5 a7 a8 => lc_text3_ev (μ := μ) (there := told.map wdW) w (by simp; omega) w5 a1 a2 a3 a4 a5 a7 a8
    have f := fin (List.replicate ns.length Str.empty) (told.map wdW) (fun i hi => by
      rw [rep_at]
      unfold rowP pmk
      rw [b, app_empty]
      exact (join2 _ _).symm) (fun i hi => by
      rw [wds_at (by omega)]
      unfold rowT tmk
      rw [a, b]
      show _ = Str.join sp [_, _, _, _]
      rw [join4])
    have p1 := placesT_len ns (List.replicate ns.length Str.empty)
    have p2 := tiesT_len ts (told.map wdW)
    unfold webD at t1 t2 t3 ⊢
    generalize placesT ns (List.replicate ns.length Str.empty) = P at *
    generalize tiesT ts (told.map wdW) = T at *
    have m1 : ∀ ρ, hMul (.lst [.str Str.empty]) (.int ns.length) ρ μ = .ok (.frs (.lst (strsD (List.replicate ns.length Str.empty)))) ρ μ := fun ρ => by rw [ev_mul_lst (by omega) (by simp), rep_str]
    simp [m__law_text_eq, t1, ninU, inU, eqL hr, a, b, i0, i1, nl, erl, lrl, q0, sizeLine_eq, empty_str, m1]
    simp [t2, t3, strsD_len, p1, p2, s1, s2, s3, s4, sizeLine_eq, f]
  · have hl2 : told.length = ns.length := by rw [hl]; unfold sizeOf; rw [a, b]; rfl
    have t2 := fun a1 a2 a3 a4 a6 a7 a9 => lc_text2_ev (μ := μ) (ts := ts) (here := told.map wdW) w.names n5 (by simp; omega) w5 a1 a2 a3 a4 a6 a7 a9
    have t3 := fun a1 a2 a3 a4 a5 a7 a8 => lc_text3_ev (μ := μ) (there := List.replicate ts.length Str.empty) w (by simp) (e5 _) a1 a2 a3 a4 a5 a7 a8
    have f := fin (told.map wdW) (List.replicate ts.length Str.empty) (fun i hi => by
      rw [wds_at (by omega)]
      unfold rowP pmk
      rw [b]
      show _ = Str.join sp [_, _, _]
      rw [join3]) (fun i hi => by
      rw [rep_at]
      unfold rowT tmk
      rw [a, b, app_empty]
      exact (join3' _ _ _).symm)
    have p1 := placesT_len ns (told.map wdW)
    have p2 := tiesT_len ts (List.replicate ts.length Str.empty)
    unfold webD at t1 t2 t3 ⊢
    generalize placesT ns (told.map wdW) = P at *
    generalize tiesT ts (List.replicate ts.length Str.empty) = T at *
    have m1 : ∀ ρ, hMul (.lst [.str Str.empty]) (.int ts.length) ρ μ = .ok (.frs (.lst (strsD (List.replicate ts.length Str.empty)))) ρ μ := fun ρ => by rw [ev_mul_lst (by omega) (by simp), rep_str]
    simp [m__law_text_eq, t1, ninU, inU, eqL hr, a, b, i0, i1, nl, erl, lrl, q0, sizeLine_eq, empty_str, m1]
    simp [t2, t3, strsD_len, p1, p2, s1, s2, s3, s4, sizeLine_eq, f]
end Nk83
set_option maxRecDepth 100000
set_option maxHeartbeats 4000000
namespace Nk83
open PySem DL
/-! ### words of rows -/
def rowD (ws : List Str) : D := .tup (strsD ws)
structure WOk (w : Str) : Prop where
  n32 : 32 ∉ w.cps.toList
  le : w.length ≤ 8
  ok : PyData.strOk w = true
structure ROk (ws : List Str) : Prop where
  ne : ws ≠ []
  le : ws.length ≤ 4
  all : ∀ w ∈ ws, WOk w
theorem wok_low {x : Str} (h : Low x) (h2 : x.length ≤ 8) : WOk x := ⟨h.no32, h2, ok_low h⟩
theorem wok_mark {o : Option Int} (h : MarkOk o) : WOk (markW o) := ⟨mark_no32 h, by have := mark_len h; omega, mark_ok h⟩
theorem low_consts : lowB sPlace = true ∧ lowB sTie = true ∧ lowB sRule = true ∧ lowB sOpen = true ∧ sPlace.length ≤ 8 ∧ sTie.length ≤ 8 ∧ sRule.length ≤ 8 := by decide +kernel
theorem wok_place : WOk sPlace := wok_low (lowB_iff.mp low_consts.1) low_consts.2.2.2.2.1
theorem wok_tie : WOk sTie := wok_low (lowB_iff.mp low_consts.2.1) low_consts.2.2.2.2.2.1
theorem wok_rule : WOk sRule := wok_low (lowB_iff.mp low_consts.2.2.1) low_consts.2.2.2.2.2.2
theorem mark_getD {told : List (Option Int)} (h : ∀ o ∈ told, MarkOk o) (i : Nat) : MarkOk (told[i]?.getD none) := by
  cases e : told[i]? with
  | none => exact .inl rfl
  | some o => exact h o (List.mem_of_getElem? e)
theorem rokP {ns : List Str} {ts : List (Str × Str)} {r : Str} {told : List (Option Int)} (w : Webs ns ts) (hm : ∀ o ∈ told, MarkOk o) {i : Nat} (hi : i < ns.length) : ROk (rowP ns r told i) := by
  have g := w.names.good ns[i] (List.getElem_mem hi)
  have e : ns[i]?.getD Str.empty = ns[i] := by simp [hi]
  have pk : (pmk r told i).length ≤ 1 ∧ ∀ w ∈ pmk r told i, WOk w := by
    unfold pmk
    split
    · simp
    · simp [wok_mark (mark_getD hm i)]
  unfold rowP
  rw [e]
  refine ⟨by simp, by simp; omega, fun x hx => ?_⟩
  rcases List.mem_append.mp hx with hx | hx
  · simp at hx
    rcases hx with rfl | rfl
    · exact wok_place
    · exact wok_low g.low g.le
  · exact pk.2 x hx
theorem rokT {ns : List Str} {ts : List (Str × Str)} {r : Str} {told : List (Option Int)} (w : Webs ns ts) (hm : ∀ o ∈ told, MarkOk o) {k : Nat} (hk : k < ts.length) : (rowT ns ts r told k).length ≤ 4 ∧ ∀ x ∈ rowT ns ts r told k, WOk x := by
  obtain ⟨m1, m2, _⟩ := w.ties.mem ts[k] (List.getElem_mem hk)
  have g1 := w.names.good _ m1
  have g2 := w.names.good _ m2
  have e : ts[k]?.getD (Str.empty, Str.empty) = ts[k] := by simp [hk]
  have pk : (tmk r ns.length told k).length ≤ 1 ∧ ∀ w ∈ tmk r ns.length told k, WOk w := by
    unfold tmk
    split
    · simp [wok_mark (mark_getD hm _)]
    · split
      · simp [wok_mark (mark_getD hm _)]
      · simp
  unfold rowT
  rw [e]
  refine ⟨by simp; omega, fun x hx => ?_⟩
  rcases List.mem_append.mp hx with hx | hx
  · simp at hx
    rcases hx with rfl | rfl | rfl
    · exact wok_tie
    · exact wok_low g1.low g1.le
    · exact wok_low g2.low g2.le
  · exact pk.2 x hx
theorem rows_ok {ns : List Str} {ts : List (Str × Str)} {r : Str} {told : List (Option Int)} (w : Webs ns ts) (hr : Rul r) (hm : ∀ o ∈ told, MarkOk o) : ∀ ws ∈ rowsW ns ts r told, ROk ws := fun ws h => by
  unfold rowsW at h
  rcases List.mem_cons.mp h with rfl | h
  · refine ⟨by simp, by simp, fun x hx => ?_⟩
    simp at hx
    rcases hx with rfl | rfl
    · exact wok_rule
    · exact wok_low hr.low (by have := hr.len; omega)
  · rcases List.mem_append.mp h with h | h
    · obtain ⟨i, hi, rfl⟩ := List.mem_map.mp h
      exact rokP w hm (List.mem_range.mp hi)
    · obtain ⟨i, hi, rfl⟩ := List.mem_map.mp h
      obtain ⟨a, b⟩ := rokT (r := r) w hm (List.mem_range.mp hi)
      exact ⟨by simp [rowT], a, b⟩
theorem join_len : ∀ {ws : List Str}, (∀ w ∈ ws, w.length ≤ 8) → (Str.join sp ws).length ≤ 9 * ws.length
  | [], _ => Nat.zero_le _
  | [a], h => by
    have := h a (by simp)
    show a.length ≤ 9 * 1
    omega
  | a :: b :: ws, h => by
    have h1 := h a (by simp)
    have h2 := join_len (ws := b :: ws) (fun w hw => h w (List.mem_cons_of_mem _ hw))
    show (a ++ sp ++ Str.join sp (b :: ws)).length ≤ _
    rw [len_app, len_app, List.length_cons]
    have : sp.length = 1 := rfl
    omega
theorem words_ev {μ : Mu} {ws : List Str} (h : ROk ws) : m_words_of [.str (Str.join sp ws)] μ = .ok (rowD ws) μ := by
  have l := join_len (ws := ws) (fun w hw => (h.all w hw).le)
  have := h.le
  have s1 : (Str.join sp ws).length ≤ 16777214 := by omega
  have s2 : (Str.join sp ws).length + 2 ≤ 16777216 := by omega
  have ls : sp.length = 1 := rfl
  have e : Txt.split (Str.join sp ws) sp = ws := split_join h.ne (fun w hw => (h.all w hw).n32)
  simp [m_words_of_eq, isStr, sp_eq, e, s1, s2, ls, sizeLine_eq]
  rfl
theorem strs_map {α : Type} (f : D → D) (g : α → Str) (k : α → D) (l : List α) (h : ∀ x ∈ l, f (.str (g x)) = k x) : (strsD (l.map g)).map f = l.map k := by
  unfold strsD
  rw [List.map_map, List.map_map]
  exact List.map_congr_left fun x hx => h x hx
/-- each row's words -/
theorem gLc_rows {lc : EF Vl} {vs : List Nat} {it : EF (List D)} {tg : TF} {cnd : EF Bool} {elt : EF Vl} {ρ : DL.Env} {μ : Mu} {W : List (List Str)} (hlc : lc = gLc vs it tg cnd elt) (hW : ∀ ws ∈ W, ROk ws) (hl : W.length ≤ 1000) (hit : it ρ μ = .ok (strsD (W.map (Str.join sp))) ρ μ) (no : noOw ρ vs = true)
    (st : ∀ ws ∈ W, ∃ ρ2, turnE tg cnd elt (.str (Str.join sp ws)) (wipeR ρ vs) μ = .ok (some (rowD ws)) ρ2 μ ∧ wipeR ρ2 vs = wipeR ρ vs) : lc ρ μ = .ok (.frs (.lst (W.map rowD))) ρ μ := by
  have e : W.map rowD = (strsD (W.map (Str.join sp))).map fun d => match d with
      | .str z => rowD (Txt.split z sp)
      | d => d := (strs_map (α := List Str) _ (Str.join sp) rowD W (fun ws hw => by
        show rowD (Txt.split (Str.join sp ws) sp) = rowD ws
        rw [show Txt.split (Str.join sp ws) sp = ws from split_join (hW ws hw).ne (fun w h => ((hW ws hw).all w h).n32)])).symm
  rw [hlc, e]
  refine gLc_map _ hit no (by rw [strsD_len, List.length_map, sizeLine_eq]; omega) (fun d hd => ?_)
  obtain ⟨z, hz, rfl⟩ := List.mem_map.mp (show d ∈ (W.map (Str.join sp)).map D.str from hd)
  obtain ⟨ws, hw, rfl⟩ := List.mem_map.mp hz
  obtain ⟨ρ2, q1, q2⟩ := st ws hw
  refine ⟨ρ2, ?_, q2⟩
  rw [q1]
  show _ = R.ok (some (rowD (Txt.split (Str.join sp ws) sp))) ρ2 μ
  rw [show Txt.split (Str.join sp ws) sp = ws from split_join (hW ws hw).ne (fun w h => ((hW ws hw).all w h).n32)]
/-! ### figures -/
def FIGS : Str := "0123456789"
theorem figs_list : FIGS.cps.toList = (List.range 10).map (· + 48) := by decide +kernel
@[simp] theorem cl_FIGURES : c_FIGURES = .str FIGS := rfl
@[simp] theorem cl_MOSTF : c_MOST_FIGURES = .int 400 := rfl
theorem lc_fig_ev {μ : Mu} {x : Str} (hl : x.length ≤ 1000000) : lc_is_figures_1 [.fz (.str x), .un] μ = .ok (.frs (.lst (x.cps.toList.map fun c => .bl (decide (c ∈ FIGS.cps.toList))))) [.fz (.str x), .un] μ := by
  have e : (x.cps.toList.map fun c => D.bl (decide (c ∈ FIGS.cps.toList))) = (signsD x).map fun d => match d with
      | .str z => .bl (decide (z.cps.toList.headD 0 ∈ FIGS.cps.toList))
      | d => d := by
    unfold signsD
    rw [List.map_map]
    exact List.map_congr_left fun c _ => rfl
  rw [e, lc_is_figures_1_eq]
  refine gLc_map _ (by simp) (by simp) (by simp only [signsD, List.length_map]; rw [len_list] at hl; rw [sizeLine_eq]; omega) (fun d hd => ?_)
  obtain ⟨c, _, rfl⟩ := List.mem_map.mp (show d ∈ x.cps.toList.map fun c => D.str ⟨#[c]⟩ from hd)
  refine ⟨[.fz (.str x), .fz (.str ⟨#[c]⟩)], ?_, by simp⟩
  simp
theorem zero_ok : PyData.strOk ("0" : Str) = true := by decide +kernel
theorem figures_ev {μ : Mu} {x : Str} (h : NumW x) : m_is_figures [.str x] μ = .ok (.bl true) μ := by
  have hok : PyData.strOk x = true := by
    unfold PyData.strOk
    rw [← Array.all_toList, List.all_eq_true]
    intro c hc
    have := h.fig c hc
    simp
    omega
  have l2 := h.le
  have hne : x ≠ Str.empty := fun e => by
    have := h.pos
    rw [e] at this
    simp [Str.empty, Str.length] at this
  have e1 : eqB (.str x) (.str Str.empty) = some false := by rw [eq_str hok empty_ok]; simp [hne]
  have all : (x.cps.toList.all fun c => decide (c ∈ FIGS.cps.toList)) = true := by
    rw [List.all_eq_true]
    intro c hc
    have := h.fig c hc
    rw [figs_list, decide_eq_true_eq]
    simp
    exact ⟨c - 48, by omega, by omega⟩
  have s1 : x.length ≤ 16777216 := by omega
  have s2 : ¬ ((400 : Int) < x.length) := by omega
  have am := all_map (fun c => decide (c ∈ FIGS.cps.toList)) x.cps.toList
  rw [all] at am
  obtain ⟨L, hL, hA⟩ : ∃ L, lc_is_figures_1 [.fz (.str x), .un] μ = .ok (.frs (.lst L)) [.fz (.str x), .un] μ ∧ allD (.lst L) = some (.bl true) := ⟨_, lc_fig_ev (show x.length ≤ 1000000 by omega), am⟩
  by_cases h0 : x = ("0" : Str)
  · have e2 : eqB (.str x) (.str ("0" : Str)) = some true := by rw [eq_str hok zero_ok]; simp [h0]
    simp [m_is_figures_eq, empty_str, e1, e2, s1, s2, hL, hA, sizeLine_eq]
  · have e2 : eqB (.str x) (.str ("0" : Str)) = some false := by rw [eq_str hok zero_ok]; simp [h0]
    have hl : x.cps.toList.headD 0 ≠ 48 := h.lead.resolve_left h0
    obtain ⟨c, cs, hc⟩ : ∃ c cs, x.cps.toList = c :: cs := by
      cases q : x.cps.toList with
      | nil => have := h.pos; rw [len_list, q] at this; simp at this
      | cons c cs => exact ⟨c, cs, rfl⟩
    rw [hc] at hl
    have a0 : L2.atI x.cps.toList 0 = some c := by
      rw [show (0 : Int) = ((0 : Nat) : Int) from rfl, at_nat, hc]; rfl
    have z0 : ("0" : Str) = ⟨#[48]⟩ := by decide +kernel
    have cok : PyData.strOk (⟨#[c]⟩ : Str) = true := by
      have := h.fig c (by rw [hc]; simp)
      show (#[c].all _) = true
      simp
      omega
    have e3 : neB (.str (⟨#[c]⟩ : Str)) (.str ("0" : Str)) = some true := by
      rw [ne_of (eq_str cok zero_ok), z0]
      have : ((⟨#[c]⟩ : Str) = ⟨#[48]⟩) = False := by
        simp at hl ⊢
        exact hl
      simp [this]
    simp [m_is_figures_eq, empty_str, e1, e2, e3, a0, s1, s2, hL, hA, sizeLine_eq]
end Nk83
set_option maxRecDepth 100000
set_option maxHeartbeats 4000000
namespace Nk83
open PySem DL
@[simp] theorem cl_PLACE : c_PLACE = .str sPlace := rfl
@[simp] theorem cl_TIE : c_TIE = .str sTie := rfl
@[simp] theorem cl_RULE : c_RULE = .str sRule := rfl
@[simp] theorem cl_OPEN : c_OPEN = .str sOpen := rfl
@[simp] theorem cl_LIKE : c_LIKE = .str sLike := rfl
@[simp] theorem cl_UNLIKE : c_UNLIKE = .str sUnlike := rfl
@[simp] theorem cl_ONES : c_ONES = .str sOnes := rfl
def RULESP : List Str := ["steps", "rests", "halves", "like", "unlike", "lucky", "ones", "far", "free"]
@[simp] theorem cl_RULES : c_RULES = .tup (strsD RULESP) := rfl
theorem rules_p : ∀ r ∈ RULES, r ∈ RULESP := by decide +kernel
def markedW (r : Str) : List Str := if isL r then [sPlace, sTie] else if isU r then [sTie] else [sPlace]
theorem inU2 (r : Str) : inB (.str r) (.tup [.str sUnlike, .str sOnes]) = some (isU r) := in2 r _ _
theorem eqL2 {r : Str} (h : Rul r) : eqB (.str r) (.str sLike) = some (isL r) := eqL h
theorem marked_ev {μ : Mu} {r : Str} (h : Rul r) : m_marked_words [.str r] μ = .ok (.tup (strsD (markedW r))) μ := by
  unfold markedW
  rcases rule_three r h.mem with ⟨a, b⟩ | ⟨a, b⟩ | ⟨a, b⟩
  · simp [m_marked_words_eq, eqL2 h, a, sizeLine_eq]; rfl
  · simp [m_marked_words_eq, eqL2 h, inU2, a, b, sizeLine_eq]; rfl
  · simp [m_marked_words_eq, eqL2 h, inU2, a, b, sizeLine_eq]; rfl
theorem ne_pt : sPlace ≠ sTie ∧ sTie ≠ sPlace ∧ sPlace ≠ sRule := by decide +kernel
theorem mem_place (r : Str) (h : Rul r) : decide (sPlace ∈ markedW r) = !isU r := by
  unfold markedW
  rcases rule_three r h.mem with ⟨a, b⟩ | ⟨a, b⟩ | ⟨a, b⟩ <;> simp [a, b, ne_pt.1]
theorem mem_tie (r : Str) (h : Rul r) : decide (sTie ∈ markedW r) = (isL r || isU r) := by
  unfold markedW
  rcases rule_three r h.mem with ⟨a, b⟩ | ⟨a, b⟩ | ⟨a, b⟩ <;> simp [a, b, ne_pt.2.1]
theorem kd_place : d_NAMES.lookup sPlace = some (.int 1) := rfl
theorem kd_tie : d_NAMES.lookup sTie = some (.int 2) := rfl
theorem eq_open {o : Option Int} (h : MarkOk o) : eqB (.str (markW o)) (.str sOpen) = some (decide (o = none)) := by
  rw [eq_str (mark_ok h) (by decide +kernel)]
  rcases h with rfl | ⟨n, rfl, h1, h2⟩
  · rfl
  · have l := (num_ok h1 h2).le
    have : numW n ≠ sOpen := fun e => by
      rw [e] at l
      exact absurd l (by decide +kernel)
    simp [markW, this]
/-- the last word is a mark's -/
theorem last_ok {μ : Mu} {o : Option Int} (h : MarkOk o) (ho : o ≠ none) : m_is_figures [.str (markW o)] μ = .ok (.bl true) μ := by
  rcases h with rfl | ⟨n, rfl, h1, h2⟩
  · exact absurd rfl ho
  · exact figures_ev (num_ok h1 h2)
theorem kdNin_ok {z : Str} {d : D} (h : d_NAMES.lookup z = some d) : kdNin d_NAMES (.str z) = some (.bl false) := by
  show (d_NAMES.lookup z).map _ = _
  rw [h]; rfl
theorem kdGet_ok {z : Str} {d : D} (h : d_NAMES.lookup z = some d) : kdGet d_NAMES (.str z) = some d := h
theorem rowD_take (a b : Str) (m : List Str) : cutD (strsD ([a, b] ++ m)) (some 1) (some 2) = strsD [b] := by
  rw [show (1 : Int) = ((1 : Nat) : Int) from rfl, show (2 : Int) = ((2 : Nat) : Int) from rfl, cut_mid]
  rfl
theorem rowD_take2 (a b c : Str) (m : List Str) : cutD (strsD ([a, b, c] ++ m)) (some 1) (some 3) = strsD [b, c] := by
  rw [show (1 : Int) = ((1 : Nat) : Int) from rfl, show (3 : Int) = ((3 : Nat) : Int) from rfl, cut_mid]
  rfl
theorem lc_row_ev {μ : Mu} {ws : List Str} {many : Int} {vs : List Str} (hc : cutD (strsD ws) (some 1) (some many) = strsD vs) (hv : ∀ v ∈ vs, Low v ∧ 1 ≤ v.length ∧ v.length ≤ 8) (hl : vs.length ≤ 4) (a0 : Sl) :
    lc_is_row_1 [a0, .fz (rowD ws), .fz (.int many), .un] μ = .ok (.frs (.lst (vs.map fun _ => .bl true))) [a0, .fz (rowD ws), .fz (.int many), .un] μ := by
  have e : (vs.map fun _ => D.bl true) = (strsD vs).map fun _ => .bl true := by simp [strsD]
  rw [e, lc_is_row_1_eq]
  refine gLc_map _ (by simp [rowD, hc]) (by simp) (by rw [strsD_len, sizeLine_eq]; omega) (fun d hd => ?_)
  obtain ⟨v, hv2, rfl⟩ := List.mem_map.mp (show d ∈ vs.map D.str from hd)
  obtain ⟨h1, h2, h3⟩ := hv v hv2
  refine ⟨[a0, .fz (rowD ws), .fz (.int many), .fz (.str v)], ?_, by simp⟩
  simp [h1.word h2 (by omega)]
theorem row_place_ev {μ : Mu} {ns : List Str} {ts : List (Str × Str)} {r : Str} {told : List (Option Int)} (w : Webs ns ts) (hr : Rul r) (hm : ∀ o ∈ told, MarkOk o) {i : Nat} (hi : i < ns.length) : m_is_row [.str r, rowD (rowP ns r told i)] μ = .ok (.bl true) μ := by
  have g := w.names.good ns[i] (List.getElem_mem hi)
  have e : ns[i]?.getD Str.empty = ns[i] := by simp [hi]
  have mk := marked_ev (μ := μ) hr
  have mp := mem_place r hr
  have n1 := kdNin_ok kd_place
  have n2 := kdGet_ok kd_place
  have lc := fun ws (hz : cutD (strsD ws) (some 1) (some 2) = strsD [ns[i]]) => lc_row_ev (μ := μ) (ws := ws) (many := 2) (vs := [ns[i]]) hz (fun v hv => by rw [List.mem_singleton.mp hv]; exact ⟨g.low, g.pos, g.le⟩) (by simp) (.fz (.str r))
  unfold rowP pmk
  rw [e]
  cases b : isU r with
  | true =>
    rw [b] at mp
    have lc1 := lc [sPlace, ns[i]] (rowD_take _ _ [])
    unfold rowD at lc1 ⊢
    have i0 : L2.atI (strsD [sPlace, ns[i]]) 0 = some (.str sPlace) := rfl
    simp [m_is_row_eq, i0, n1, n2, mk, mp, strsD_len, lc1]
    rfl
  | false =>
    rw [b] at mp
    have hmk := mark_getD hm i
    have lc1 := lc [sPlace, ns[i], markW (told[i]?.getD none)] (rowD_take _ _ [_])
    unfold rowD at lc1 ⊢
    have i0 : L2.atI (strsD [sPlace, ns[i], markW (told[i]?.getD none)]) 0 = some (.str sPlace) := rfl
    have i2 : L2.atI (strsD [sPlace, ns[i], markW (told[i]?.getD none)]) (-1) = some (.str (markW (told[i]?.getD none))) := rfl
    have eo := eq_open hmk
    by_cases ho : told[i]?.getD none = none
    · rw [decide_eq_true ho] at eo
      simp [m_is_row_eq, i0, i2, eo, n1, n2, mk, mp, strsD_len, lc1]
      rfl
    · rw [decide_eq_false ho] at eo
      have lo := last_ok (μ := μ) hmk ho
      simp [m_is_row_eq, i0, i2, eo, lo, n1, n2, mk, mp, strsD_len, lc1]
      rfl
theorem row_tie_ev {μ : Mu} {ns : List Str} {ts : List (Str × Str)} {r : Str} {told : List (Option Int)} (w : Webs ns ts) (hr : Rul r) (hm : ∀ o ∈ told, MarkOk o) {k : Nat} (hk : k < ts.length) : m_is_row [.str r, rowD (rowT ns ts r told k)] μ = .ok (.bl true) μ := by
  obtain ⟨m1, m2, _⟩ := w.ties.mem ts[k] (List.getElem_mem hk)
  have g1 := w.names.good _ m1
  have g2 := w.names.good _ m2
  have e : ts[k]?.getD (Str.empty, Str.empty) = ts[k] := by simp [hk]
  have mk := marked_ev (μ := μ) hr
  have mp := mem_tie r hr
  have n1 := kdNin_ok kd_tie
  have n2 := kdGet_ok kd_tie
  have lc := fun ws (hz : cutD (strsD ws) (some 1) (some 3) = strsD [ts[k].1, ts[k].2]) => lc_row_ev (μ := μ) (ws := ws) (many := 3) (vs := [ts[k].1, ts[k].2]) hz (fun v hv => by
    simp at hv
    rcases hv with rfl | rfl
    · exact ⟨g1.low, g1.pos, g1.le⟩
    · exact ⟨g2.low, g2.pos, g2.le⟩) (by simp) (.fz (.str r))
  have core : ∀ (o : Option Int), MarkOk o → (isL r || isU r) = true → m_is_row [.str r, rowD [sTie, ts[k].1, ts[k].2, markW o]] μ = .ok (.bl true) μ := fun o hmk hb => by
    rw [hb] at mp
    have lc1 := lc [sTie, ts[k].1, ts[k].2, markW o] (rowD_take2 _ _ _ [_])
    unfold rowD at lc1 ⊢
    have i0 : L2.atI (strsD [sTie, ts[k].1, ts[k].2, markW o]) 0 = some (.str sTie) := rfl
    have i2 : L2.atI (strsD [sTie, ts[k].1, ts[k].2, markW o]) (-1) = some (.str (markW o)) := rfl
    have eo := eq_open hmk
    by_cases ho : o = none
    · rw [decide_eq_true ho] at eo
      simp [m_is_row_eq, i0, i2, eo, n1, n2, mk, mp, strsD_len, lc1]
      rfl
    · rw [decide_eq_false ho] at eo
      have lo := last_ok (μ := μ) hmk ho
      simp [m_is_row_eq, i0, i2, eo, lo, n1, n2, mk, mp, strsD_len, lc1]
      rfl
  unfold rowT tmk
  rw [e]
  rcases rule_three r hr.mem with ⟨a, b⟩ | ⟨a, b⟩ | ⟨a, b⟩
  · rw [a]
    exact core _ (mark_getD hm _) (by rw [a]; rfl)
  · rw [a, b]
    exact core _ (mark_getD hm _) (by rw [a, b]; rfl)
  · rw [a, b] at mp ⊢
    have lc1 := lc [sTie, ts[k].1, ts[k].2] (rowD_take2 _ _ _ [])
    show m_is_row [.str r, rowD [sTie, ts[k].1, ts[k].2]] μ = _
    unfold rowD at lc1 ⊢
    have i0 : L2.atI (strsD [sTie, ts[k].1, ts[k].2]) 0 = some (.str sTie) := rfl
    simp [m_is_row_eq, i0, n1, n2, mk, mp, strsD_len, lc1]
    rfl
end Nk83
set_option maxRecDepth 100000
set_option maxHeartbeats 4000000
namespace Nk83
open PySem DL
/-! ### a text is read -/
section
variable {μ : Mu} {ns : List Str} {ts : List (Str × Str)} {r : Str} {told : List (Option Int)}
abbrev behind (ns : List Str) (ts : List (Str × Str)) (r : Str) (told : List (Option Int)) : List (List Str) := (List.range ns.length).map (rowP ns r told) ++ (List.range ts.length).map (rowT ns ts r told)
theorem rowsW_len : (rowsW ns ts r told).length = 1 + ns.length + ts.length := by
  simp [rowsW]; omega
theorem text_ok (w : Webs ns ts) (hr : Rul r) (hm : ∀ o ∈ told, MarkOk o) : ∀ x ∈ text ns ts r told, PyData.strOk x = true := fun x hx => by
  obtain ⟨ws, hw, rfl⟩ := List.mem_map.mp hx
  have rk := rows_ok w hr hm ws hw
  have key : ∀ ws : List Str, (∀ w ∈ ws, PyData.strOk w = true) → PyData.strOk (Str.join sp ws) = true := fun ws => by
    have app : ∀ a b : Str, PyData.strOk a = true → PyData.strOk b = true → PyData.strOk (a ++ b) = true := fun a b ha hb => by
      unfold PyData.strOk at *
      rw [← Array.all_toList] at *
      rw [app_list, List.all_append, ha, hb]; rfl
    induction ws with
    | nil => intro _; exact empty_ok
    | cons a ws ih =>
      intro h
      cases ws with
      | nil => exact h a (by simp)
      | cons b ws =>
        show PyData.strOk (a ++ sp ++ Str.join sp (b :: ws)) = true
        exact app _ _ (app _ _ (h a (by simp)) (by decide +kernel)) (ih fun w hw => h w (List.mem_cons_of_mem _ hw))
  exact key ws fun w hw => (rk.all w hw).ok
theorem lcw_ev (w : Webs ns ts) (hr : Rul r) (hm : ∀ o ∈ told, MarkOk o) : lc_wrong_in_lines_1 [.fz (.tup (strsD (text ns ts r told))), .un, .un, .un, .un, .un] μ = .ok (.frs (.lst ((rowsW ns ts r told).map rowD))) [.fz (.tup (strsD (text ns ts r told))), .un, .un, .un, .un, .un] μ := by
  have n5 := w.n5
  have t5 := w.t5
  refine gLc_rows lc_wrong_in_lines_1_eq (rows_ok w hr hm) (by rw [rowsW_len]; omega) (by simp [text]) (by simp) (fun ws hw => ?_)
  refine ⟨[.fz (.tup (strsD (text ns ts r told))), .un, .fz (.str (Str.join sp ws)), .un, .un, .un], ?_, by simp⟩
  simp [words_ev (rows_ok w hr hm ws hw)]
theorem lct_ev (w : Webs ns ts) (hr : Rul r) (hm : ∀ o ∈ told, MarkOk o) : lc_told_by_1 [.fz (.tup (strsD (text ns ts r told))), .un, .un, .un, .un, .un, .un] μ = .ok (.frs (.lst ((rowsW ns ts r told).map rowD))) [.fz (.tup (strsD (text ns ts r told))), .un, .un, .un, .un, .un, .un] μ := by
  have n5 := w.n5
  have t5 := w.t5
  refine gLc_rows lc_told_by_1_eq (rows_ok w hr hm) (by rw [rowsW_len]; omega) (by simp [text]) (by simp) (fun ws hw => ?_)
  refine ⟨[.fz (.tup (strsD (text ns ts r told))), .un, .fz (.str (Str.join sp ws)), .un, .un, .un, .un], ?_, by simp⟩
  simp [words_ev (rows_ok w hr hm ws hw)]
theorem rule_row_ev (hr : Rul r) : m_is_rule_row [rowD [sRule, r]] μ = .ok (.bl true) μ := by
  have e1 : eqB (.str sRule) (.str sRule) = some true := by rw [eq_str (by decide +kernel) (by decide +kernel)]; simp
  unfold rowD
  have i0 : L2.atI (strsD [sRule, r]) 0 = some (.str sRule) := rfl
  have i1 : L2.atI (strsD [sRule, r]) 1 = some (.str r) := rfl
  simp [m_is_rule_row_eq, i0, i1, e1, strsD_len, rules_p r hr.mem]
theorem tix_place : tixD t_ORDER [.str sPlace] = some (.int 1) := by
  have h : sPlace ∈ t_ORDER := by decide +kernel
  have h2 : t_ORDER.idxOf sPlace = 1 := by decide +kernel
  show (if sPlace ∈ t_ORDER then some (D.int (t_ORDER.idxOf sPlace)) else none) = _
  rw [if_pos h, h2]; rfl
theorem tix_tie : tixD t_ORDER [.str sTie] = some (.int 2) := by
  have h : sTie ∈ t_ORDER := by decide +kernel
  have h2 : t_ORDER.idxOf sTie = 2 := by decide +kernel
  show (if sTie ∈ t_ORDER then some (D.int (t_ORDER.idxOf sTie)) else none) = _
  rw [if_pos h, h2]; rfl
theorem ev_tix {ts : List Str} {t : EF (List D)} {ρ : DL.Env} {μ : Mu} : gTix ts t ρ μ = (match t ρ μ with
  | .ok ds ρ' μ' => okD (tixD ts ds) ρ' μ'
  | .exc x ρ' μ' => .exc x ρ' μ'
  | .no => .no) := by
  simp only [gTix, bnd]
  cases t ρ μ <;> rfl
theorem drop1 (ds : List D) : cutD ds (some 1) none = ds.drop 1 := cut_from ds 1
theorem lines_ev (w : Webs ns ts) (hr : Rul r) (hm : ∀ o ∈ told, MarkOk o) : m_wrong_in_lines [.tup (strsD (text ns ts r told))] μ = .ok (.lst []) μ := by
  have n1 := w.n1
  have hne : eqB (.tup (strsD (text ns ts r told))) (.tup []) = some false := by
    rw [eq_nil_tup (plain_strs (text_ok w hr hm))]
    simp [strsD, text, rowsW]
  have R0 : L2.atI ((rowsW ns ts r told).map rowD) 0 = some (rowD [sRule, r]) := by
    rw [show (0 : Int) = ((0 : Nat) : Int) from rfl, at_nat]; rfl
  have R1 : L2.atI (strsD [sRule, r]) 1 = some (.str r) := rfl
  have dr : cutD ((rowsW ns ts r told).map rowD) (some 1) none = (behind ns ts r told).map rowD := drop1 _
  have lp : ∃ s3 s4 s5, fo_wrong_in_lines_3 [.fz (.tup (strsD (text ns ts r told))), .ow (.lst ((rowsW ns ts r told).map rowD)), .un, .fz (.str sPlace), .un, .un] μ = .nx [.fz (.tup (strsD (text ns ts r told))), .ow (.lst ((rowsW ns ts r told).map rowD)), .un, s3, s4, s5] μ := by
    rw [fo_wrong_in_lines_3_eq]
    obtain ⟨ρ', μ', e, a, s4, s5, rfl, rfl, _⟩ := sFor_run (it := iEnm (aCons (gSl (gName 1) (pSome (gC (.int 1))) pNone) aNil)) (tg := toTup 2 (toCons (toName 4) (toCons (toName 5) toNil))) (body := fb_wrong_in_lines_2) (ρ0 := [.fz (.tup (strsD (text ns ts r told))), .ow (.lst ((rowsW ns ts r told).map rowD)), .un, .fz (.str sPlace), .un, .un]) (ρ := [.fz (.tup (strsD (text ns ts r told))), .ow (.lst ((rowsW ns ts r told).map rowD)), .un, .fz (.str sPlace), .un, .un]) (μ0 := μ) (μ := μ) (ds := pairsD ((behind ns ts r told).map rowD))
      (fun k ρ μ' => ∃ a s4 s5, ρ = [.fz (.tup (strsD (text ns ts r told))), .ow (.lst ((rowsW ns ts r told).map rowD)), .un, .fz (.str a), s4, s5] ∧ μ' = μ ∧ (a = sPlace ∨ a = sTie) ∧ (k ≤ ns.length → a = sPlace)) (by simp [dr, -List.map_append]) ⟨_, _, _, rfl, rfl, .inl rfl, fun _ => rfl⟩ (fun k d ρ μ' hd hI => by
        obtain ⟨a, s4, s5, rfl, rfl, ha, ha2⟩ := hI
        obtain ⟨x, hx, rfl⟩ := pairs_getD hd
        obtain ⟨ws, hws, rfl⟩ : ∃ ws, (behind ns ts r told)[k]? = some ws ∧ x = rowD ws := by
          simp only [List.getElem?_map, Option.map_eq_some_iff] at hx
          obtain ⟨z, hz, rfl⟩ := hx
          exact ⟨z, hz, rfl⟩
        have R1' : L2.atI (strsD [sRule, r]) 1 = some (.str r) := rfl
        by_cases hk : k < ns.length
        · rw [List.getElem?_append_left (by simpa using hk), List.getElem?_map, List.getElem?_range hk] at hws
          cases hws
          have ea := ha2 (by omega)
          subst ea
          have i0 : L2.atI (strsD (rowP ns r told k)) 0 = some (.str sPlace) := by rw [show (0 : Int) = ((0 : Nat) : Int) from rfl, at_nat]; rfl
          have rk := row_place_ev (μ := μ') w hr hm hk
          refine ⟨[.fz (.tup (strsD (text ns ts r told))), .ow (.lst ((rowsW ns ts r told).map rowD)), .un, .fz (.str sPlace), .fz (.int k), .fz (rowD (rowP ns r told k))], μ', [.fz (.tup (strsD (text ns ts r told))), .ow (.lst ((rowsW ns ts r told).map rowD)), .un, .fz (.str sPlace), .fz (.int k), .fz (rowD (rowP ns r told k))], μ', by simp, .inl ?_, sPlace, _, _, rfl, rfl, .inl rfl, fun _ => rfl⟩
          rw [fb_wrong_in_lines_2_eq]
          unfold rowD at rk R0 ⊢
          simp [R0, R1', rk, ev_tix, tix_place, i0]
        · have hk2 : k - ns.length < ts.length := by
            have := (List.getElem?_eq_some_iff.mp hws).1
            simp [behind] at this
            omega
          rw [List.getElem?_append_right (by simp; omega), List.getElem?_map, List.length_map, List.length_range, List.getElem?_range hk2] at hws
          cases hws
          have i0 : L2.atI (strsD (rowT ns ts r told (k - ns.length))) 0 = some (.str sTie) := by rw [show (0 : Int) = ((0 : Nat) : Int) from rfl, at_nat]; rfl
          have rk := row_tie_ev (μ := μ') w hr hm hk2
          refine ⟨[.fz (.tup (strsD (text ns ts r told))), .ow (.lst ((rowsW ns ts r told).map rowD)), .un, .fz (.str a), .fz (.int k), .fz (rowD (rowT ns ts r told (k - ns.length)))], μ', [.fz (.tup (strsD (text ns ts r told))), .ow (.lst ((rowsW ns ts r told).map rowD)), .un, .fz (.str sTie), .fz (.int k), .fz (rowD (rowT ns ts r told (k - ns.length)))], μ', by simp, .inl ?_, sTie, _, _, rfl, rfl, .inr rfl, fun h => by omega⟩
          rw [fb_wrong_in_lines_2_eq]
          unfold rowD at rk R0 ⊢
          rcases ha with rfl | rfl
          · simp [R0, R1', rk, ev_tix, tix_place, tix_tie, i0]
          · simp [R0, R1', rk, ev_tix, tix_place, tix_tie, i0])
    exact ⟨_, s4, s5, e⟩
  obtain ⟨s3, s4, s5, e⟩ := lp
  have rr := rule_row_ev (μ := μ) hr
  have lc := lcw_ev (μ := μ) w hr hm
  have R0' : seeD μ (rowD [sRule, r]) = rowD [sRule, r] := rfl
  generalize text ns ts r told = TX at *
  generalize (rowsW ns ts r told).map rowD = RW at *
  simp [m_wrong_in_lines_eq, isTup, hne, lc, R0, rr, e, sizeLine_eq]
end
end Nk83
set_option maxRecDepth 100000
set_option maxHeartbeats 4000000
namespace Nk83
open PySem DL
section
variable {μ : Mu} {ns : List Str} {ts : List (Str × Str)} {r : Str} {told : List (Option Int)}
theorem range_getD {α : Type} (z : α) (l : List α) : (List.range l.length).map (fun i => l[i]?.getD z) = l := by
  refine List.ext_getElem? fun i => ?_
  rw [List.getElem?_map]
  by_cases h : i < l.length
  · rw [List.getElem?_range h, List.getElem?_eq_getElem h]; simp [h]
  · rw [List.getElem?_eq_none (by simp; omega), List.getElem?_eq_none (by omega)]; rfl
/-- a walk over rows' words -/
theorem gLc_fmrows {lc : EF Vl} {vs : List Nat} {it : EF (List D)} {tg : TF} {cnd : EF Bool} {elt : EF Vl} {ρ : DL.Env} {μ : Mu} {W : List (List Str)} (F : List Str → Option D) (hlc : lc = gLc vs it tg cnd elt) (hl : W.length ≤ 1000) (hit : it ρ μ = .ok (W.map rowD) ρ μ) (no : noOw ρ vs = true)
    (st : ∀ ws ∈ W, ∃ ρ2, turnE tg cnd elt (rowD ws) (wipeR ρ vs) μ = .ok (F ws) ρ2 μ ∧ wipeR ρ2 vs = wipeR ρ vs) : lc ρ μ = .ok (.frs (.lst (W.filterMap F))) ρ μ := by
  have un : ∀ ws : List Str, (match rowD ws with
    | .tup ds => ds.map strOfD
    | _ => []) = ws := fun ws => by
    show (strsD ws).map strOfD = ws
    simp only [strsD, List.map_map]
    exact List.map_id'' (fun _ => rfl) ws
  have e : W.filterMap F = (W.map rowD).filterMap fun d => F (match d with
    | .tup ds => ds.map strOfD
    | _ => []) := by
    rw [List.filterMap_map]
    refine congrArg (fun g => W.filterMap g) (funext fun ws => ?_)
    show F ws = F (match rowD ws with
    | .tup ds => ds.map strOfD
    | _ => [])
    rw [un]
  rw [hlc, e]
  refine gLc_fm _ hit no (by rw [List.length_map, sizeLine_eq]; omega) (fun d hd => ?_)
  obtain ⟨ws, hw, rfl⟩ := List.mem_map.mp hd
  obtain ⟨ρ2, q1, q2⟩ := st ws hw
  refine ⟨ρ2, ?_, q2⟩
  rw [q1, un]
theorem fm_some {α β : Type} {F : α → Option β} {f : α → β} : ∀ {l : List α}, (∀ x ∈ l, F x = some (f x)) → l.filterMap F = l.map f
  | [], _ => rfl
  | x :: l, h => by rw [List.filterMap_cons, h x (by simp)]; show f x :: _ = _; rw [fm_some fun y hy => h y (List.mem_cons_of_mem _ hy)]; rfl
theorem fm_none {α β : Type} {F : α → Option β} : ∀ {l : List α}, (∀ x ∈ l, F x = none) → l.filterMap F = []
  | [], _ => rfl
  | x :: l, h => by rw [List.filterMap_cons, h x (by simp)]; exact fm_none fun y hy => h y (List.mem_cons_of_mem _ hy)
theorem fm_rows {F : List Str → Option D} {fp : Nat → D} {ft : Nat → D} {bp bt : Bool} (hp : ∀ i, i < ns.length → F (rowP ns r told i) = if bp then some (fp i) else none) (ht : ∀ k, k < ts.length → F (rowT ns ts r told k) = if bt then some (ft k) else none) :
    (behind ns ts r told).filterMap F = (if bp then (List.range ns.length).map fp else []) ++ (if bt then (List.range ts.length).map ft else []) := by
  unfold behind
  rw [List.filterMap_append, List.filterMap_map, List.filterMap_map]
  congr 1
  · cases bp with
    | true => exact fm_some fun i hi => hp i (List.mem_range.mp hi)
    | false => exact fm_none fun i hi => hp i (List.mem_range.mp hi)
  · cases bt with
    | true => exact fm_some fun i hi => ht i (List.mem_range.mp hi)
    | false => exact fm_none fun i hi => ht i (List.mem_range.mp hi)
theorem at0 (a : Str) (m : List Str) : L2.atI (strsD (a :: m)) 0 = some (.str a) := by rw [show (0 : Int) = ((0 : Nat) : Int) from rfl, at_nat]; rfl
theorem at1 (a b : Str) (m : List Str) : L2.atI (strsD (a :: b :: m)) 1 = some (.str b) := by rw [show (1 : Int) = ((1 : Nat) : Int) from rfl, at_nat]; rfl
theorem mem_behind {ws : List Str} (h : ws ∈ behind ns ts r told) : (∃ i, i < ns.length ∧ ws = rowP ns r told i) ∨ ∃ k, k < ts.length ∧ ws = rowT ns ts r told k := by
  rcases List.mem_append.mp h with h | h
  · obtain ⟨i, hi, rfl⟩ := List.mem_map.mp h
    exact .inl ⟨i, List.mem_range.mp hi, rfl⟩
  · obtain ⟨i, hi, rfl⟩ := List.mem_map.mp h
    exact .inr ⟨i, List.mem_range.mp hi, rfl⟩
theorem cons_eq : eqB (.str sPlace) (.str sPlace) = some true ∧ eqB (.str sTie) (.str sPlace) = some false ∧ eqB (.str sPlace) (.str sTie) = some false ∧ eqB (.str sTie) (.str sTie) = some true := by
  have p : PyData.strOk sPlace = true := by decide +kernel
  have t : PyData.strOk sTie = true := by decide +kernel
  refine ⟨?_, ?_, ?_, ?_⟩
  · rw [eq_str p p]; simp
  · rw [eq_str t p]; simp [ne_pt.2.1]
  · rw [eq_str p t]; simp [ne_pt.1]
  · rw [eq_str t t]; simp
theorem dr_rows : cutD ((rowsW ns ts r told).map rowD) (some 1) none = (behind ns ts r told).map rowD := drop1 _
theorem told2_ev (w : Webs ns ts) (a0 a2 a3 a4 a6 : Sl) : lc_told_by_2 [a0, .ow (.lst ((rowsW ns ts r told).map rowD)), a2, a3, a4, .un, a6] μ = .ok (.frs (.lst (strsD ns))) [a0, .ow (.lst ((rowsW ns ts r told).map rowD)), a2, a3, a4, .un, a6] μ := by
  have n5 := w.n5
  have t5 := w.t5
  have F := fm_rows (ns := ns) (ts := ts) (r := r) (told := told) (F := fun ws => if ws[0]? = some sPlace then some (.str (ws[1]?.getD Str.empty)) else none) (fp := fun i => .str (ns[i]?.getD Str.empty)) (ft := fun _ => .non) (bp := true) (bt := false)
    (fun i hi => by show (if some sPlace = some sPlace then _ else _) = _; rw [if_pos rfl]; rfl) (fun k hk => by show (if some sTie = some sPlace then _ else _) = _; rw [if_neg (by simp [ne_pt.2.1])]; rfl)
  have e : strsD ns = (behind ns ts r told).filterMap (fun ws => if ws[0]? = some sPlace then some (.str (ws[1]?.getD Str.empty)) else none) := by
    rw [F]
    show strsD ns = (List.range ns.length).map (fun i => D.str (ns[i]?.getD Str.empty)) ++ []
    rw [List.append_nil]
    have := congrArg strsD (range_getD Str.empty ns)
    rw [← this]
    simp [strsD]
  rw [e]
  refine gLc_fmrows _ lc_told_by_2_eq (by simp [behind]; omega) (by simp [dr_rows, -List.map_append]) (by simp) (fun ws hw => ?_)
  refine ⟨[a0, .ow (.lst ((rowsW ns ts r told).map rowD)), a2, a3, a4, .fz (rowD ws), a6], ?_, by simp⟩
  rcases mem_behind hw with ⟨i, hi, rfl⟩ | ⟨k, hk, rfl⟩
  · have i0 : L2.atI (strsD (rowP ns r told i)) 0 = some (.str sPlace) := at0 _ _
    have i1 : L2.atI (strsD (rowP ns r told i)) 1 = some (.str (ns[i]?.getD Str.empty)) := at1 _ _ _
    have g0 : (rowP ns r told i)[0]? = some sPlace := rfl
    have g1 : (rowP ns r told i)[1]? = some (ns[i]?.getD Str.empty) := rfl
    unfold rowD
    generalize rowP ns r told i = z at *
    simp [i0, i1, cons_eq.1, g0, g1]
  · have i0 : L2.atI (strsD (rowT ns ts r told k)) 0 = some (.str sTie) := at0 _ _
    have g0 : (rowT ns ts r told k)[0]? = some sTie := rfl
    unfold rowD
    generalize rowT ns ts r told k = z at *
    simp [i0, cons_eq.2.1, g0, ne_pt.2.1]
theorem told3_ev (w : Webs ns ts) (a0 a2 a3 a4 a6 : Sl) : lc_told_by_3 [a0, .ow (.lst ((rowsW ns ts r told).map rowD)), a2, a3, a4, .un, a6] μ = .ok (.frs (.lst (ts.map pairD))) [a0, .ow (.lst ((rowsW ns ts r told).map rowD)), a2, a3, a4, .un, a6] μ := by
  have n5 := w.n5
  have t5 := w.t5
  have F := fm_rows (ns := ns) (ts := ts) (r := r) (told := told) (F := fun ws => if ws[0]? = some sTie then some (pairD (ws[1]?.getD Str.empty, ws[2]?.getD Str.empty)) else none) (fp := fun _ => .non) (ft := fun k => pairD (ts[k]?.getD (Str.empty, Str.empty))) (bp := false) (bt := true)
    (fun i hi => by show (if some sPlace = some sTie then _ else _) = _; rw [if_neg (by simp [ne_pt.1])]; rfl) (fun k hk => by show (if some sTie = some sTie then _ else _) = _; rw [if_pos rfl]; rfl)
  have e : ts.map pairD = (behind ns ts r told).filterMap (fun ws => if ws[0]? = some sTie then some (pairD (ws[1]?.getD Str.empty, ws[2]?.getD Str.empty)) else none) := by
    rw [F]
    show _ = [] ++ (List.range ts.length).map (fun i => pairD (ts[i]?.getD (Str.empty, Str.empty)))
    rw [List.nil_append]
    have := congrArg (List.map pairD) (range_getD (Str.empty, Str.empty) ts)
    rw [← this]
    simp
  rw [e]
  refine gLc_fmrows _ lc_told_by_3_eq (by simp [behind]; omega) (by simp [dr_rows, -List.map_append]) (by simp) (fun ws hw => ?_)
  refine ⟨[a0, .ow (.lst ((rowsW ns ts r told).map rowD)), a2, a3, a4, .fz (rowD ws), a6], ?_, by simp⟩
  rcases mem_behind hw with ⟨i, hi, rfl⟩ | ⟨k, hk, rfl⟩
  · have i0 : L2.atI (strsD (rowP ns r told i)) 0 = some (.str sPlace) := at0 _ _
    have g0 : (rowP ns r told i)[0]? = some sPlace := rfl
    unfold rowD
    generalize rowP ns r told i = z at *
    simp [i0, cons_eq.2.2.1, g0, ne_pt.1]
  · have i0 : L2.atI (strsD (rowT ns ts r told k)) 0 = some (.str sTie) := at0 _ _
    have g0 : (rowT ns ts r told k)[0]? = some sTie := rfl
    have g1 : (rowT ns ts r told k)[1]? = some (ts[k]?.getD (Str.empty, Str.empty)).1 := rfl
    have g2 : (rowT ns ts r told k)[2]? = some (ts[k]?.getD (Str.empty, Str.empty)).2 := rfl
    have c := rowD_take2 sTie (ts[k]?.getD (Str.empty, Str.empty)).1 (ts[k]?.getD (Str.empty, Str.empty)).2 (tmk r ns.length told k)
    replace c : cutD (strsD (rowT ns ts r told k)) (some 1) (some 3) = _ := c
    unfold rowD
    generalize rowT ns ts r told k = z at *
    simp [i0, c, cons_eq.2.2.2, g0, g1, g2]
    rfl
theorem markin_ev {o : Option Int} (h : MarkOk o) {ws : List Str} (hw : L2.atI (strsD ws) (-1) = some (.str (markW o))) : m_mark_in [rowD ws] μ = .ok (optD o) μ := by
  have eo := eq_open h
  unfold rowD
  rcases h with rfl | ⟨n, rfl, h1, h2⟩
  · simp [m_mark_in_eq, hw, eo]; rfl
  · have nb := num_back h1 h2
    have l2 := (num_ok h1 h2).le
    have iD : intD (.str (markW (some n))) = some (.int n) := by
      show (PySem.intText? (numW n)).bind _ = _
      rw [nb]
      show (if (numW n).length ≤ 640 then some (D.int n) else none) = _
      rw [if_pos (by omega)]
    simp [m_mark_in_eq, hw, eo, iD]; rfl
/-- all marks, as they stand in rows -/
theorem marks_all (w : Webs ns ts) (hr : Rul r) (hl : told.length = sizeOf r ns.length ts.length) : (if !isU r then (List.range ns.length).map (fun i => optD (told[i]?.getD none)) else []) ++ (if isL r || isU r then (List.range ts.length).map (fun k => optD (told[(if isL r then ns.length else 0) + k]?.getD none)) else []) = told.map optD := by
  unfold sizeOf at hl
  have key : ∀ l : List (Option Int), (List.range l.length).map (fun i => optD (l[i]?.getD none)) = l.map optD := fun l => by
    have := congrArg (List.map optD) (range_getD none l)
    rw [List.map_map] at this
    exact this
  rcases rule_three r hr.mem with ⟨a, b⟩ | ⟨a, b⟩ | ⟨a, b⟩
  · simp only [a, b, Bool.not_false, if_true, Bool.true_or] at hl ⊢
    rw [← key told, hl, List.range_add, List.map_append, List.map_map]
    rfl
  · simp only [a, b, Bool.not_true, if_false, Bool.false_or, if_true] at hl ⊢
    rw [← key told, hl]
    simp
  · simp only [a, b, Bool.not_false, if_true, Bool.false_or] at hl ⊢
    rw [← key told, hl]
    simp
end
end Nk83
set_option maxRecDepth 100000
set_option maxHeartbeats 4000000
namespace Nk83
open PySem DL
section
variable {μ : Mu} {ns : List Str} {ts : List (Str × Str)} {r : Str} {told : List (Option Int)}
theorem atl1 (a b c : Str) : L2.atI (strsD ([a, b] ++ [c])) (-1) = some (.str c) := rfl
theorem atl2 (a b d c : Str) : L2.atI (strsD ([a, b, d] ++ [c])) (-1) = some (.str c) := rfl
theorem told4_ev (w : Webs ns ts) (hr : Rul r) (hm : ∀ o ∈ told, MarkOk o) (hl : told.length = sizeOf r ns.length ts.length) (a0 a2 a4 a6 : Sl) : lc_told_by_4 [a0, .ow (.lst ((rowsW ns ts r told).map rowD)), a2, .fz (.str r), a4, .un, a6] μ = .ok (.frs (.lst (told.map optD))) [a0, .ow (.lst ((rowsW ns ts r told).map rowD)), a2, .fz (.str r), a4, .un, a6] μ := by
  have n5 := w.n5
  have t5 := w.t5
  have mp := mem_place r hr
  have mt := mem_tie r hr
  have mk := marked_ev (μ := μ) hr
  have miP : ∀ i, i < ns.length → isU r = false → m_mark_in [rowD (rowP ns r told i)] μ = .ok (optD (told[i]?.getD none)) μ := fun i hi hu => by
    refine markin_ev (mark_getD hm i) ?_
    unfold rowP pmk
    rw [hu]
    exact atl1 _ _ _
  have miT : ∀ k, k < ts.length → (isL r || isU r) = true → m_mark_in [rowD (rowT ns ts r told k)] μ = .ok (optD (told[(if isL r then ns.length else 0) + k]?.getD none)) μ := fun k hk hu => by
    refine markin_ev (mark_getD hm _) ?_
    unfold rowT tmk
    cases a : isL r with
    | true => exact atl2 _ _ _ _
    | false =>
      rw [a] at hu
      rw [show isU r = true from hu]
      simp only [Bool.false_eq_true, if_false, if_true, Nat.zero_add]
      exact atl2 _ _ _ _
  have F := fm_rows (ns := ns) (ts := ts) (r := r) (told := told) (F := fun ws => if decide (ws[0]?.getD Str.empty ∈ markedW r) then some (match m_mark_in [rowD ws] μ with | .ok d _ => d | _ => .non) else none) (fp := fun i => optD (told[i]?.getD none)) (ft := fun k => optD (told[(if isL r then ns.length else 0) + k]?.getD none)) (bp := !isU r) (bt := isL r || isU r)
    (fun i hi => by
      show (if decide (sPlace ∈ markedW r) = true then _ else _) = _
      rw [mp]
      cases u : isU r with
      | true => rfl
      | false => rw [miP i hi u]) (fun k hk => by
      show (if decide (sTie ∈ markedW r) = true then _ else _) = _
      rw [mt]
      cases u : (isL r || isU r) with
      | false => rfl
      | true => rw [miT k hk u])
  rw [marks_all w hr hl] at F
  rw [← F]
  refine gLc_fmrows _ lc_told_by_4_eq (by simp [behind]; omega) (by simp [dr_rows, -List.map_append]) (by simp) (fun ws hw => ?_)
  refine ⟨[a0, .ow (.lst ((rowsW ns ts r told).map rowD)), a2, .fz (.str r), a4, .fz (rowD ws), a6], ?_, by simp⟩
  rcases mem_behind hw with ⟨i, hi, rfl⟩ | ⟨k, hk, rfl⟩
  · have i0 : L2.atI (strsD (rowP ns r told i)) 0 = some (.str sPlace) := at0 _ _
    have g0 : (rowP ns r told i)[0]? = some sPlace := rfl
    have mi := miP i hi
    cases u : isU r with
    | true =>
      rw [u] at mp
      have mp2 : ¬ sPlace ∈ markedW r := by simpa using mp
      unfold rowD at mi ⊢
      generalize rowP ns r told i = z at *
      simp [i0, g0, mk, mp2]
    | false =>
      rw [u] at mp
      have mp2 : sPlace ∈ markedW r := by simpa using mp
      have mi := mi u
      unfold rowD at mi ⊢
      generalize rowP ns r told i = z at *
      simp [i0, g0, mk, mp2, mi]
  · have i0 : L2.atI (strsD (rowT ns ts r told k)) 0 = some (.str sTie) := at0 _ _
    have g0 : (rowT ns ts r told k)[0]? = some sTie := rfl
    have mi := miT k hk
    cases u : (isL r || isU r) with
    | false =>
      rw [u] at mt
      have mt2 : ¬ sTie ∈ markedW r := by simpa using mt
      unfold rowD at mi ⊢
      generalize rowT ns ts r told k = z at *
      simp [i0, g0, mk, mt2]
    | true =>
      rw [u] at mt
      have mt2 : sTie ∈ markedW r := by simpa using mt
      have mi := mi u
      unfold rowD at mi ⊢
      generalize rowT ns ts r told k = z at *
      simp [i0, g0, mk, mt2, mi]
theorem told_ev (w : Webs ns ts) (hr : Rul r) (hm : ∀ o ∈ told, MarkOk o) (hl : told.length = sizeOf r ns.length ts.length) : m_told_by [.tup (strsD (text ns ts r told))] μ = .ok (.tup [.str r, .tup (strsD ns), .tup (ts.map pairD), .tup (told.map optD)]) μ := by
  have l1 := lct_ev (μ := μ) w hr hm
  have l2 := fun a0 a2 a3 a4 a6 => told2_ev (μ := μ) (r := r) (told := told) w a0 a2 a3 a4 a6
  have l3 := fun a0 a2 a3 a4 a6 => told3_ev (μ := μ) (r := r) (told := told) w a0 a2 a3 a4 a6
  have l4 := fun a0 a2 a4 a6 => told4_ev (μ := μ) w hr hm hl a0 a2 a4 a6
  have R0 : L2.atI ((rowsW ns ts r told).map rowD) 0 = some (.tup (strsD [sRule, r])) := by
    rw [show (0 : Int) = ((0 : Nat) : Int) from rfl, at_nat]; rfl
  have R1 : L2.atI (strsD [sRule, r]) 1 = some (.str r) := rfl
  generalize text ns ts r told = TX at *
  generalize (rowsW ns ts r told).map rowD = RW at *
  simp [m_told_by_eq, l1, l2, l3, l4, R0, R1, sizeLine_eq]
/-! ### the web's parts, the rule -/
theorem parts_ev : m_Web_parts [webO ns ts] μ = .ok (webD ns ts) μ := by
  unfold webO
  have e : (webF ns ts).lookup (Str.ofString "all_told") = some (webD ns ts) := rfl
  simp [m_Web_parts_eq, e]
theorem places_p : m_Web_places [webO ns ts] μ = .ok (.tup (strsD ns)) μ := by
  unfold webO
  have e : (webF ns ts).lookup (Str.ofString "all_told") = some (webD ns ts) := rfl
  have i0 : L2.atI [D.tup (strsD ns), .tup (ts.map pairD)] 0 = some (.tup (strsD ns)) := rfl
  unfold webD at e
  simp [m_Web_places_eq, e, i0]
theorem ties_p : m_Web_ties [webO ns ts] μ = .ok (.tup (ts.map pairD)) μ := by
  unfold webO
  have e : (webF ns ts).lookup (Str.ofString "all_told") = some (webD ns ts) := rfl
  have i0 : L2.atI [D.tup (strsD ns), .tup (ts.map pairD)] 1 = some (.tup (ts.map pairD)) := rfl
  unfold webD at e
  simp [m_Web_ties_eq, e, i0]
theorem size_by_ev (hr : Rul r) : m_size_by [webO ns ts, .str r] μ = .ok (.int (sizeOf r ns.length ts.length : Nat)) μ := by
  have p := prop_ok (C := "Web") (m := m_Web_places) (g := gName 0) (ρ := [.fz (webO ns ts), .fz (.str r)]) (ρ' := [.fz (webO ns ts), .fz (.str r)]) (μ := μ) (μ1 := μ) (fs := webF ns ts) rfl places_p
  have t := prop_ok (C := "Web") (m := m_Web_ties) (g := gName 0) (ρ := [.fz (webO ns ts), .fz (.str r)]) (ρ' := [.fz (webO ns ts), .fz (.str r)]) (μ := μ) (μ1 := μ) (fs := webF ns ts) rfl ties_p
  unfold sizeOf
  rcases rule_three r hr.mem with ⟨a, b⟩ | ⟨a, b⟩ | ⟨a, b⟩
  · simp [m_size_by_eq, eqL2 hr, a, p, t, strsD_len]
  · simp [m_size_by_eq, eqL2 hr, inU2, a, b, p, t, strsD_len, sizeLine_eq]
  · simp [m_size_by_eq, eqL2 hr, inU2, a, b, p, t, strsD_len, sizeLine_eq]
theorem check_web_ev : m_check_web [webO ns ts] μ = .ok .non μ := by
  have i : isiC cls "Web" (tyOf μ (webO ns ts)) = some true := by
    show isiC cls "Web" (some (.c "Web")) = some true
    decide +kernel
  have s : seeD μ (webO ns ts) = webO ns ts := rfl
  simp [m_check_web_eq, s, i]
theorem check_rule_ev (w : Webs ns ts) (hr : Rul r) : m_check_rule [webO ns ts, .str r] μ = .ok .non μ := by
  have cw := check_web_ev (μ := μ) (ns := ns) (ts := ts)
  have sb := size_by_ev (μ := μ) (ns := ns) (ts := ts) hr
  have oo := one_of_ev (μ := μ) (x := r) (ns := RULESP) (rules_p r hr.mem)
  have ml : c_MOST_LIKE = .int 10 := rfl
  have mu : c_MOST_UNLIKE = .int 7 := rfl
  have i2 : inB (.str r) (.tup [.str sLike, .str sUnlike]) = some (decide (r = sLike) || decide (r = sUnlike)) := in2 r _ _
  have n5 := w.n5
  have t5 := w.t5
  have sl : ¬ (10 : Int) < (sizeOf r ns.length ts.length : Nat) := by
    unfold sizeOf
    split
    · omega
    · split <;> omega
  cases a : isL r with
  | true =>
    have a2 : r = sLike := of_decide_eq_true a
    have i3 : inB (.str r) (.tup [.str sLike, .str sUnlike]) = some true := by rw [i2, a2]; rfl
    simp [m_check_rule_eq, cw, oo, eqL2 hr, a, ml, i3, sb, sl, sizeLine_eq]
  | false =>
    have a2 : ¬ r = sLike := of_decide_eq_false a
    by_cases b : r = sUnlike
    · have i3 : inB (.str r) (.tup [.str sLike, .str sUnlike]) = some true := by rw [i2, b]; rfl
      have s7 : ¬ (7 : Int) < (sizeOf r ns.length ts.length : Nat) := by
        unfold sizeOf
        rw [a]
        simp only [Bool.false_eq_true, if_false]
        split <;> omega
      simp [m_check_rule_eq, cw, oo, eqL2 hr, a, mu, i3, sb, s7, sizeLine_eq]
    · have i3 : inB (.str r) (.tup [.str sLike, .str sUnlike]) = some false := by rw [i2]; simp [a2, b]
      simp [m_check_rule_eq, cw, oo, eqL2 hr, a, mu, i3, sizeLine_eq]
theorem read_ev (B : Bows μ) (w : Webs ns ts) (hr : Rul r) (hm : ∀ o ∈ told, MarkOk o) (hl : told.length = sizeOf r ns.length ts.length) : m_read_marks [.tup (strsD (text ns ts r told))] μ = .ok (.tup [webO ns ts, .str r, .tup (told.map optD)]) μ := by
  have le := lines_ev (μ := μ) w hr hm
  have te := told_ev (μ := μ) w hr hm hl
  have cr := check_rule_ev (μ := μ) w hr
  generalize text ns ts r told = TX at *
  have f1 : fo_read_marks_2 [.fz (.tup (strsD TX)), .un, .un, .un, .un, .un, .un] μ = .nx [.fz (.tup (strsD TX)), .un, .un, .un, .un, .un, .un] μ := by
    rw [fo_read_marks_2_eq]
    unfold sFor
    simp [le]
    rfl
  have k := make_ok (C := "Web") (n := 3) (m := m_Web___init__) (t := aCons (gName 3) (aCons (gName 4) aNil)) (ρ := [.fz (.tup (strsD TX)), .un, .fz (.str r), .fz (.tup (strsD ns)), .fz (.tup (ts.map pairD)), .fz (.tup (told.map optD)), .un]) (ρ' := [.fz (.tup (strsD TX)), .un, .fz (.str r), .fz (.tup (strsD ns)), .fz (.tup (ts.map pairD)), .fz (.tup (told.map optD)), .un]) (μ := μ) (μ1 := μ) (ds := [.tup (strsD ns), .tup (ts.map pairD)]) (by simp) rfl (init_ev B.clean w.names w.n1 (by have := w.n5; omega) w.ties (by have := w.t5; omega)) (noR_web _ ns ts) (B.noref _)
  unfold webO at cr ⊢
  simp [m_read_marks_eq, f1, te, k, cr, sizeLine_eq]
end
end Nk83
set_option maxRecDepth 100000
set_option maxHeartbeats 4000000
namespace Nk83
open PySem DL
section
variable {μ : Mu} {ns : List Str} {ts : List (Str × Str)} {r : Str} {told : List (Option Int)}
/-! ### told marks are right -/
theorem isInt {μ : Mu} (i : Int) : isiT cls "int" (tyOf μ (.int i)) = some true := by
  show L2.kitB "int" "int" = some true
  decide +kernel
theorem notBool {μ : Mu} (i : Int) : isiT cls "bool" (tyOf μ (.int i)) = some false := by
  show L2.kitB "int" "bool" = some false
  decide +kernel
theorem l2_ev (hc : Clean μ) {o : Option Int} (h : MarkOk o) : lamF 2 1 lg_l2 [] [optD o] μ = .ok (.bl true) μ := by
  refine lam_ok rfl ?_ hc (ρ' := [.fz (optD o)]) ?_
  · rcases h with rfl | ⟨n, rfl, _, _⟩ <;> rfl
  · have hs : startL 1 [optD o] [] = [.fz (optD o)] := rfl
    rw [hs, lg_l2_eq]
    rcases h with rfl | ⟨n, rfl, h1, h2⟩
    · simp [optD]
    · have w : m_is_whole [.int n] μ = .ok (.bl true) μ := by simp [m_is_whole_eq, isInt, notBool]
      have nm : m_is_number [.int n] μ = .ok (.bl true) μ := by simp [m_is_number_eq, w, h1]
      simp [optD, nm]
theorem l3_ev (hc : Clean μ) {o : Option Int} (h : MarkOk o) (ds : List D) (hd : noCs (· == 3) ds = true) : lamF 3 3 lg_l3_l2 [.clo 2 []] [.tup ds, optD o] μ = .ok (.bl true) μ := by
  refine lam_ok rfl ?_ hc (ρ' := [.fz (.tup ds), .fz (optD o), .fz (.clo 2 [])]) ?_
  · show (noCs _ ds && (noC _ (optD o) && true)) = true
    rw [hd]
    rcases h with rfl | ⟨n, rfl, _, _⟩ <;> rfl
  · have hs : startL 3 [.tup ds, optD o] [.clo 2 []] = [.fz (.tup ds), .fz (optD o), .fz (.clo 2 [])] := rfl
    have c := callS_ok (ρ := [.fz (.tup ds), .fz (optD o), .fz (.clo 2 [])]) (ρ' := [.fz (.tup ds), .fz (optD o), .fz (.clo 2 [])]) (μ := μ) (μ1 := μ) (i := 2) (n := 1) (disp := dp_l2) (t := aCons (gName 1) aNil) rfl rfl (ds := [optD o]) (by simp) rfl (l2_ev hc h)
    rw [hs, lg_l3_l2_eq]
    simp [c]
theorem told_right (hc : Clean μ) (hm : ∀ o ∈ told, MarkOk o) (hl : told.length ≤ 100) : m_wrong_in_told [.int told.length, .tup (told.map optD)] μ = .ok (.lst []) μ := by
  have w : m_wrong_in_l3_l2 [.tup (told.map optD), .int told.length, .int told.length, .clo 3 [.clo 2 []]] μ = .ok (.lst []) μ := by
    have lp : ∃ s4 s5, fo_wrong_in_l3_l2_2 [.fz (.tup (told.map optD)), .fz (.int told.length), .fz (.int told.length), .fz (.clo 3 [.clo 2 []]), .un, .un] μ = .nx [.fz (.tup (told.map optD)), .fz (.int told.length), .fz (.int told.length), .fz (.clo 3 [.clo 2 []]), s4, s5] μ := by
      rw [fo_wrong_in_l3_l2_2_eq]
      obtain ⟨ρ', μ', e, s4, s5, rfl, rfl⟩ := sFor_run (it := iEnm (aCons (gName 0) aNil)) (tg := toTup 2 (toCons (toName 4) (toCons (toName 5) toNil))) (body := fb_wrong_in_l3_l2_1) (ρ0 := [.fz (.tup (told.map optD)), .fz (.int told.length), .fz (.int told.length), .fz (.clo 3 [.clo 2 []]), .un, .un]) (μ0 := μ) (μ := μ) (ρ := [.fz (.tup (told.map optD)), .fz (.int told.length), .fz (.int told.length), .fz (.clo 3 [.clo 2 []]), .un, .un]) (ds := pairsD (told.map optD))
        (fun k ρ μ' => ∃ s4 s5, ρ = [.fz (.tup (told.map optD)), .fz (.int told.length), .fz (.int told.length), .fz (.clo 3 [.clo 2 []]), s4, s5] ∧ μ' = μ) (by simp) ⟨_, _, rfl, rfl⟩ (fun k d ρ μ' hd hI => by
          obtain ⟨s4, s5, rfl, rfl⟩ := hI
          obtain ⟨x, hx, rfl⟩ := pairs_getD hd
          obtain ⟨z, hz, rfl⟩ : ∃ z, told[k]? = some z ∧ x = optD z := by
            simp only [List.getElem?_map, Option.map_eq_some_iff] at hx
            obtain ⟨z, hz, rfl⟩ := hx
            exact ⟨z, hz, rfl⟩
          have hk := (List.getElem?_eq_some_iff.mp hz).1
          have k7 : ¬ ((k : Int) = (told.length : Int)) := by omega
          have k8 : ¬ (k = told.length) := by omega
          refine ⟨[.fz (.tup (told.map optD)), .fz (.int told.length), .fz (.int told.length), .fz (.clo 3 [.clo 2 []]), .fz (.int k), .fz (optD z)], μ', [.fz (.tup (told.map optD)), .fz (.int told.length), .fz (.int told.length), .fz (.clo 3 [.clo 2 []]), .fz (.int k), .fz (optD z)], μ', by simp, .inl ?_, _, _, rfl, rfl⟩
          have c := callS_ok (ρ := [.fz (.tup (told.map optD)), .fz (.int told.length), .fz (.int told.length), .fz (.clo 3 [.clo 2 []]), .fz (.int k), .fz (optD z)]) (ρ' := [.fz (.tup (told.map optD)), .fz (.int told.length), .fz (.int told.length), .fz (.clo 3 [.clo 2 []]), .fz (.int k), .fz (optD z)]) (μ1 := μ') (μ := μ') (i := 3) (n := 2) (disp := dp_l3_l2) (t := aCons (gSl (gName 0) pNone (pSome (gName 4))) (aCons (gName 5) aNil)) rfl rfl (ds := [.tup ((told.take k).map optD), optD z]) (by simp) rfl (l3_ev hc (hm z (List.mem_of_getElem? hz)) _ (noC_opts _ _))
          rw [fb_wrong_in_l3_l2_1_eq]
          simp [k7, k8, c])
      exact ⟨s4, s5, e⟩
    obtain ⟨s4, s5, e⟩ := lp
    simp [m_wrong_in_l3_l2_eq, isTup, e, sizeLine_eq]
  have it : m_is_tuple_of [.tup (told.map optD), .int told.length] μ = .ok (.bl true) μ := by
    simp [m_is_tuple_of_eq, isTup]
  have c3 := callM_ok (ρ := [.fz (.tup (told.map optD)), .fz (.int told.length), .fz (.clo 2 [])]) (μ := μ) (n := 4) (m := m_wrong_in_l3_l2) (num := 3) (js := [2]) (ds := [.tup (told.map optD), .int told.length, .int told.length]) (env := [.clo 2 []]) rfl rfl w rfl hc
  have a : m_wrong_in_all_l2 [.tup (told.map optD), .int told.length, .clo 2 []] μ = .ok (.lst []) μ := by
    simp [m_wrong_in_all_l2_eq, it, c3]
  have c2 := callM_ok (ρ := [.fz (.int told.length), .fz (.tup (told.map optD))]) (μ := μ) (n := 3) (m := m_wrong_in_all_l2) (num := 2) (js := []) (ds := [.tup (told.map optD), .int told.length]) (env := []) rfl rfl a rfl hc
  simp [m_wrong_in_told_eq, c2]
theorem check_told_ev (hc : Clean μ) (w : Webs ns ts) (hr : Rul r) (hm : ∀ o ∈ told, MarkOk o) (hl : told.length = sizeOf r ns.length ts.length) : m_check_told [webO ns ts, .str r, .tup (told.map optD)] μ = .ok .non μ := by
  have cr := check_rule_ev (μ := μ) w hr
  have sb := size_by_ev (μ := μ) (ns := ns) (ts := ts) hr
  have n5 := w.n5
  have t5 := w.t5
  have h100 : told.length ≤ 100 := by
    rw [hl]; unfold sizeOf
    split
    · omega
    · split <;> omega
  have tr := told_right (μ := μ) hc hm h100
  rw [← hl] at sb
  unfold webO at cr sb ⊢
  have f1 : fo_check_told_2 [.fz (.obj "Web" (webF ns ts)), .fz (.str r), .fz (.tup (told.map optD)), .un] μ = .nx [.fz (.obj "Web" (webF ns ts)), .fz (.str r), .fz (.tup (told.map optD)), .un] μ := by
    rw [fo_check_told_2_eq]
    unfold sFor
    simp [sb, tr]
    rfl
  simp [m_check_told_eq, cr, f1]
end
end Nk83
set_option maxRecDepth 100000
set_option maxHeartbeats 4000000
namespace Nk83
open PySem DL
section
variable {μ : Mu} {ns : List Str} {ts : List (Str × Str)} {r : Str} {told : List (Option Int)}
/-! ### the text is told -/
def headsL (ns : List Str) (ts : List (Str × Str)) : List Str := ns.map (fun n => sPlace ++ sp ++ n) ++ ts.map fun p => sTie ++ sp ++ p.1 ++ sp ++ p.2
def kindsL (ns : List Str) (ts : List (Str × Str)) : List Str := List.replicate ns.length sPlace ++ List.replicate ts.length sTie
/-- from which row on, how many rows are marked -/
def offR (ns : List Str) (r : Str) : Nat := if isU r then ns.length else 0
theorem pairs_strs (l : List Str) : pairsD (strsD l) = (List.range l.length).map fun i => .tup [.int (i : Nat), .str (l[i]?.getD Str.empty)] := by
  refine List.ext_getElem? fun i => ?_
  unfold pairsD
  rw [List.getElem?_map, List.getElem?_map, List.getElem?_zipIdx]
  by_cases h : i < l.length
  · rw [List.getElem?_range h]
    simp [strsD, h]
  · have h1 : (List.range l.length)[i]? = none := List.getElem?_eq_none (by simpa using h)
    have h2 : (strsD l)[i]? = none := List.getElem?_eq_none (by rw [strsD_len]; omega)
    rw [h1, h2]
    rfl
theorem empty_str2 : Str.ofString "" = Str.empty := empty_str
theorem place_sp_len : (sPlace ++ sp).length = 6 ∧ (sTie ++ sp).length = 4 ∧ sp.length = 1 ∧ sPlace.length = 5 ∧ sTie.length = 3 ∧ Str.empty.length = 0 ∧ sRule.length = 4 ∧ (sRule ++ sp).length = 5 := by decide +kernel
theorem rows1_ev (w : Webs ns ts) (a1 a2 a3 a5 a6 a7 a8 a9 a10 a11 a12 : Sl) : lc_rows_by_1 [.fz (webO ns ts), a1, a2, a3, .un, a5, a6, a7, a8, a9, a10, a11, a12] μ = .ok (.frs (.lst (strsD (ns.map fun n => sPlace ++ sp ++ n)))) [.fz (webO ns ts), a1, a2, a3, .un, a5, a6, a7, a8, a9, a10, a11, a12] μ := by
  have n5 := w.n5
  obtain ⟨p1, p2, p3, p4, p5, p6, _, _⟩ := place_sp_len
  have p := prop_ok (C := "Web") (m := m_Web_places) (g := gName 0) (ρ := [.fz (webO ns ts), a1, a2, a3, .un, a5, a6, a7, a8, a9, a10, a11, a12]) (ρ' := [.fz (webO ns ts), a1, a2, a3, .un, a5, a6, a7, a8, a9, a10, a11, a12]) (μ := μ) (μ1 := μ) (fs := webF ns ts) rfl places_p
  have e : strsD (ns.map fun n => sPlace ++ sp ++ n) = (strsD ns).map fun d => match d with
    | .str n => .str (sPlace ++ sp ++ n)
    | d => d := by simp [strsD]
  rw [e, lc_rows_by_1_eq]
  refine gLc_map _ (by simp [p]) (by simp) (by rw [strsD_len, sizeLine_eq]; omega) (fun d hd => ?_)
  obtain ⟨n, hn, rfl⟩ := List.mem_map.mp (show d ∈ ns.map D.str from hd)
  have le := (w.names.good n hn).le
  refine ⟨[.fz (webO ns ts), a1, a2, a3, .fz (.str n), a5, a6, a7, a8, a9, a10, a11, a12], ?_, by simp⟩
  have q1 : n.length ≤ 16777216 := by omega
  have q2 : 6 + n.length ≤ 16777216 := by omega
  simp [sp_eq, empty_app, p1, p3, p4, p6, q1, q2, sizeLine_eq]
theorem rows2_ev (w : Webs ns ts) (a1 a2 a3 a4 a7 a8 a9 a10 a11 a12 : Sl) : lc_rows_by_2 [.fz (webO ns ts), a1, a2, a3, a4, .un, .un, a7, a8, a9, a10, a11, a12] μ = .ok (.frs (.lst (strsD (ts.map fun p => sTie ++ sp ++ p.1 ++ sp ++ p.2)))) [.fz (webO ns ts), a1, a2, a3, a4, .un, .un, a7, a8, a9, a10, a11, a12] μ := by
  have t5 := w.t5
  obtain ⟨p1, p2, p3, p4, p5, p6, _, _⟩ := place_sp_len
  have p := prop_ok (C := "Web") (m := m_Web_ties) (g := gName 0) (ρ := [.fz (webO ns ts), a1, a2, a3, a4, .un, .un, a7, a8, a9, a10, a11, a12]) (ρ' := [.fz (webO ns ts), a1, a2, a3, a4, .un, .un, a7, a8, a9, a10, a11, a12]) (μ := μ) (μ1 := μ) (fs := webF ns ts) rfl ties_p
  have e : strsD (ts.map fun p => sTie ++ sp ++ p.1 ++ sp ++ p.2) = (ts.map pairD).map fun d => match d with
    | .tup [.str a, .str b] => .str (sTie ++ sp ++ a ++ sp ++ b)
    | d => d := by simp [strsD, pairD]
  rw [e, lc_rows_by_2_eq]
  refine gLc_map _ (by simp [p]) (by simp) (by rw [List.length_map, sizeLine_eq]; omega) (fun d hd => ?_)
  obtain ⟨q, hq, rfl⟩ := List.mem_map.mp hd
  obtain ⟨m1, m2, _⟩ := w.ties.mem q hq
  have le1 := (w.names.good _ m1).le
  have le2 := (w.names.good _ m2).le
  refine ⟨[.fz (webO ns ts), a1, a2, a3, a4, .fz (.str q.1), .fz (.str q.2), a7, a8, a9, a10, a11, a12], ?_, by simp⟩
  have q1 : q.1.length ≤ 16777216 := by omega
  have q1' : q.2.length ≤ 16777216 := by omega
  have q2 : 4 + q.1.length ≤ 16777216 := by omega
  have q3 : 4 + q.1.length ≤ 16777215 := by omega
  have q4 : 4 + q.1.length + 1 + q.2.length ≤ 16777216 := by omega
  have l1 : (sTie ++ sp ++ q.1).length = 4 + q.1.length := by rw [len_app, p2]
  have l2 : (sTie ++ sp ++ q.1 ++ sp).length = 4 + q.1.length + 1 := by rw [len_app, l1, p3]
  simp [pairD, sp_eq, empty_app, p2, p3, p5, p6, q1, q1', q2, q3, q4, l1, l2, sizeLine_eq]
theorem kinds_at {i : Nat} : (kindsL ns ts)[i]?.getD Str.empty = if i < ns.length then sPlace else if i < ns.length + ts.length then sTie else Str.empty := by
  unfold kindsL
  by_cases h : i < ns.length
  · rw [if_pos h, List.getElem?_append_left (by simpa using h), List.getElem?_replicate, if_pos h]; rfl
  · rw [if_neg h, List.getElem?_append_right (by simp; omega), List.length_replicate, List.getElem?_replicate]
    by_cases h2 : i < ns.length + ts.length
    · rw [if_pos h2, if_pos (by omega)]; rfl
    · rw [if_neg h2, if_neg (by omega)]; rfl
theorem rows3_ev (w : Webs ns ts) (hr : Rul r) (a0 a2 a3 a4 a5 a6 a8 a11 a12 : Sl) : lc_rows_by_3 [a0, .fz (.str r), a2, a3, a4, a5, a6, .ow (.lst (strsD (kindsL ns ts))), a8, .un, .un, a11, a12] μ = .ok (.frs (.lst (((List.range (sizeOf r ns.length ts.length)).map (offR ns r + ·)).map fun i => D.int (i : Nat)))) [a0, .fz (.str r), a2, a3, a4, a5, a6, .fz (.lst (strsD (kindsL ns ts))), a8, .un, .un, a11, a12] μ := by
  have n5 := w.n5
  have t5 := w.t5
  have mk := marked_ev (μ := μ) hr
  have mp := mem_place r hr
  have mt := mem_tie r hr
  have kl : (kindsL ns ts).length = ns.length + ts.length := by simp [kindsL]
  have e : (pairsD (strsD (kindsL ns ts))).filterMap (fun d => match d with
    | .tup [.int i, .str z] => if decide (z ∈ markedW r) then some (.int i) else none
    | _ => none) = ((List.range (sizeOf r ns.length ts.length)).map (offR ns r + ·)).map fun i => D.int (i : Nat) := by
    rw [pairs_strs, kl, List.filterMap_map, List.range_add, List.filterMap_append]
    have h1 : ∀ i ∈ List.range ns.length, ((fun d => match d with
      | .tup [.int i, .str z] => if decide (z ∈ markedW r) then some (.int i) else none
      | _ => none) ∘ fun (i : Nat) => D.tup [.int (i : Nat), .str ((kindsL ns ts)[i]?.getD Str.empty)]) i = if !isU r then some (D.int (i : Nat)) else none := fun i hi => by
      have hi := List.mem_range.mp hi
      show (if decide ((kindsL ns ts)[i]?.getD Str.empty ∈ markedW r) = true then some (D.int (i : Nat)) else none) = _
      rw [kinds_at, if_pos hi, mp]
    have h2 : ∀ i ∈ (List.range ts.length).map (ns.length + ·), ((fun d => match d with
      | .tup [.int i, .str z] => if decide (z ∈ markedW r) then some (.int i) else none
      | _ => none) ∘ fun (i : Nat) => D.tup [.int (i : Nat), .str ((kindsL ns ts)[i]?.getD Str.empty)]) i = if isL r || isU r then some (D.int (i : Nat)) else none := fun i hi => by
      obtain ⟨k, hk, rfl⟩ := List.mem_map.mp hi
      have hk := List.mem_range.mp hk
      have kt : (kindsL ns ts)[ns.length + k]?.getD Str.empty = sTie := by rw [kinds_at, if_neg (by omega), if_pos (by omega)]
      show (if decide ((kindsL ns ts)[ns.length + k]?.getD Str.empty ∈ markedW r) = true then some (D.int ((ns.length + k : Nat) : Int)) else none) = _
      rw [kt, mt]
    unfold sizeOf offR
    rcases rule_three r hr.mem with ⟨a, b⟩ | ⟨a, b⟩ | ⟨a, b⟩
    · rw [b] at h1
      rw [a, b] at h2
      rw [fm_some (f := fun (i : Nat) => D.int (i : Nat)) h1, fm_some (f := fun (i : Nat) => D.int (i : Nat)) h2, a, b]
      simp [List.range_add]
    · rw [b] at h1
      rw [a, b] at h2
      rw [fm_none h1, fm_some (f := fun (i : Nat) => D.int (i : Nat)) h2, a, b]
      simp
    · rw [b] at h1
      rw [a, b] at h2
      rw [fm_some (f := fun (i : Nat) => D.int (i : Nat)) h1, fm_none h2, a, b]
      simp
  rw [← e, lc_rows_by_3_eq]
  refine gLc_fm _ (by simp) (by simp) (by rw [pairsD_len, strsD_len, kl, sizeLine_eq]; omega) (fun d hd => ?_)
  rw [pairs_strs] at hd
  obtain ⟨i, hi, rfl⟩ := List.mem_map.mp hd
  generalize (kindsL ns ts)[i]?.getD Str.empty = z at *
  refine ⟨[a0, .fz (.str r), a2, a3, a4, a5, a6, .fz (.lst (strsD (kindsL ns ts))), a8, .fz (.int i), .fz (.str z), a11, a12], ?_, by simp⟩
  simp [mk]
  split <;> rfl
theorem markword_ev {o : Option Int} (h : MarkOk o) : m_mark_word [optD o] μ = .ok (.str (markW o)) μ := by
  rcases h with rfl | ⟨n, rfl, h1, h2⟩
  · simp [m_mark_word_eq, optD, markW]
  · simp [m_mark_word_eq, optD, markW, str_mark h1 h2]
/-- the i-th row's text -/
def rowText (ns : List Str) (ts : List (Str × Str)) (r : Str) (told : List (Option Int)) (i : Nat) : Str := if i < ns.length then Str.join sp (rowP ns r told i) else Str.join sp (rowT ns ts r told (i - ns.length))
theorem text_rows : text ns ts r told = (sRule ++ sp ++ r) :: (List.range (ns.length + ts.length)).map (rowText ns ts r told) := by
  unfold text rowsW
  rw [List.map_cons, join2, List.map_append, List.map_map, List.map_map, List.range_add, List.map_append, List.map_map]
  congr 2
  · refine List.map_congr_left fun i hi => ?_
    have hi := List.mem_range.mp hi
    simp [rowText, hi]
  · refine List.map_congr_left fun i hi => ?_
    have : ¬ ns.length + i < ns.length := by omega
    simp [rowText, this]
theorem heads_at {i : Nat} (hi : i < ns.length + ts.length) : (headsL ns ts)[i]?.getD Str.empty = if i < ns.length then sPlace ++ sp ++ (ns[i]?.getD Str.empty) else sTie ++ sp ++ (ts[i - ns.length]?.getD (Str.empty, Str.empty)).1 ++ sp ++ (ts[i - ns.length]?.getD (Str.empty, Str.empty)).2 := by
  unfold headsL
  by_cases h : i < ns.length
  · rw [if_pos h, List.getElem?_append_left (by simpa using h)]
    simp [h]
  · rw [if_neg h, List.getElem?_append_right (by simp; omega), List.length_map]
    have : i - ns.length < ts.length := by omega
    simp [this]
theorem head_len (w : Webs ns ts) {i : Nat} (hi : i < ns.length + ts.length) : ((headsL ns ts)[i]?.getD Str.empty).length ≤ 30 := by
  obtain ⟨p1, p2, p3, p4, p5, p6, _, _⟩ := place_sp_len
  rw [heads_at hi]
  by_cases h : i < ns.length
  · rw [if_pos h, len_app, p1]
    have := (w.names.good ns[i] (List.getElem_mem h)).le
    simp [h]
    omega
  · rw [if_neg h]
    have h2 : i - ns.length < ts.length := by omega
    obtain ⟨m1, m2, _⟩ := w.ties.mem ts[i - ns.length] (List.getElem_mem h2)
    have l1 := (w.names.good _ m1).le
    have l2 := (w.names.good _ m2).le
    rw [len_app, len_app, len_app, p2, p3]
    simp [h2]
    omega
/-- row i: its head, and its mark behind it -/
theorem rowText_head (hr : Rul r) {i : Nat} (hi : i < ns.length + ts.length) : rowText ns ts r told i = if offR ns r ≤ i ∧ i < offR ns r + sizeOf r ns.length ts.length then (headsL ns ts)[i]?.getD Str.empty ++ (sp ++ markW (told[i - offR ns r]?.getD none)) else (headsL ns ts)[i]?.getD Str.empty := by
  rw [heads_at hi]
  unfold rowText rowP rowT pmk tmk offR sizeOf
  rcases rule_three r hr.mem with ⟨a, b⟩ | ⟨a, b⟩ | ⟨a, b⟩
  · by_cases h : i < ns.length
    · simp only [a, b, h, if_true, Bool.false_eq_true, if_false]
      rw [if_pos (by omega), Nat.sub_zero]
      exact join3 _ _ _
    · simp only [a, b, h, if_true, Bool.false_eq_true, if_false]
      rw [if_pos (by omega), Nat.sub_zero, show ns.length + (i - ns.length) = i by omega]
      exact join4 _ _ _ _
  · by_cases h : i < ns.length
    · simp only [a, b, h, if_true, Bool.false_eq_true, if_false]
      rw [if_neg (by omega)]
      exact join2 _ _
    · simp only [a, b, h, if_true, Bool.false_eq_true, if_false]
      rw [if_pos (by omega)]
      exact join4 _ _ _ _
  · by_cases h : i < ns.length
    · simp only [a, b, h, if_true, Bool.false_eq_true, if_false]
      rw [if_pos (by omega), Nat.sub_zero]
      exact join3 _ _ _
    · simp only [a, b, h, if_true, Bool.false_eq_true, if_false]
      rw [if_neg (by omega)]
      exact join3' _ _ _
theorem rows4_ev (w : Webs ns ts) (hr : Rul r) (hm : ∀ o ∈ told, MarkOk o) (hl : told.length = sizeOf r ns.length ts.length) (a0 a1 a2 a4 a5 a6 a7 a8 a10 : Sl) :
    lc_rows_by_4 [a0, a1, a2, .ow (.lst (strsD (headsL ns ts))), a4, a5, a6, a7, a8, .un, a10, .ow (.dic (((List.range (sizeOf r ns.length ts.length)).map (offR ns r + ·)).map fun i => D.int (i : Nat)) (told.map optD)), .un] μ = .ok (.frs (.lst (strsD ((List.range (ns.length + ts.length)).map (rowText ns ts r told))))) [a0, a1, a2, .fz (.lst (strsD (headsL ns ts))), a4, a5, a6, a7, a8, .un, a10, .ow (.dic (((List.range (sizeOf r ns.length ts.length)).map (offR ns r + ·)).map fun i => D.int (i : Nat)) (told.map optD)), .un] μ := by
  have n5 := w.n5
  have t5 := w.t5
  have hk : (headsL ns ts).length = ns.length + ts.length := by simp [headsL]
  have e : strsD ((List.range (ns.length + ts.length)).map (rowText ns ts r told)) = (pairsD (strsD (headsL ns ts))).map fun d => match d with
    | .tup [.int i, _] => .str (rowText ns ts r told i.toNat)
    | d => d := by
    rw [pairs_strs, hk, List.map_map, strsD, List.map_map]
    exact List.map_congr_left fun i _ => by simp
  rw [e, lc_rows_by_4_eq]
  refine gLc_map _ (by simp) (by simp) (by rw [pairsD_len, strsD_len, hk, sizeLine_eq]; omega) (fun d hd => ?_)
  rw [pairs_strs] at hd
  obtain ⟨i, hi, rfl⟩ := List.mem_map.mp hd
  have hi := List.mem_range.mp hi
  rw [hk] at hi
  have rt := rowText_head (ns := ns) (ts := ts) (told := told) hr hi
  have hd30 := head_len w hi
  have da : dicAt (((List.range (sizeOf r ns.length ts.length)).map (offR ns r + ·)).map fun i => D.int (i : Nat)) (told.map optD) (.inl (i : Int)) = if offR ns r ≤ i ∧ i < offR ns r + sizeOf r ns.length ts.length then (told.map optD)[i - offR ns r]? else none := by
    have := dicAt_range (offR ns r) (sizeOf r ns.length ts.length) 0 (told.map optD) i (by rw [List.length_map, hl])
    rw [List.range_eq_range', List.map_map]
    exact this
  generalize (headsL ns ts)[i]?.getD Str.empty = z at *
  refine ⟨[a0, a1, a2, .fz (.lst (strsD (headsL ns ts))), a4, a5, a6, a7, a8, .fz (.int i), a10, .ow (.dic (((List.range (sizeOf r ns.length ts.length)).map (offR ns r + ·)).map fun i => D.int (i : Nat)) (told.map optD)), .fz (.str z)], ?_, by simp⟩
  have z1 : z.length ≤ 16777216 := by omega
  obtain ⟨_, _, p3, _, _, p6, _, _⟩ := place_sp_len
  have inD : inB (.int i) (.dic (((List.range (sizeOf r ns.length ts.length)).map (offR ns r + ·)).map fun i => D.int (i : Nat)) (told.map optD)) = some (dicAt (((List.range (sizeOf r ns.length ts.length)).map (offR ns r + ·)).map fun i => D.int (i : Nat)) (told.map optD) (.inl (i : Int))).isSome := rfl
  have kD : keyD (.int i) = some (.inl (i : Int)) := rfl
  generalize (((List.range (sizeOf r ns.length ts.length)).map (offR ns r + ·)).map fun i => D.int (i : Nat)) = KS at *
  by_cases h : offR ns r ≤ i ∧ i < offR ns r + sizeOf r ns.length ts.length
  · rw [if_pos h] at rt da
    have hlt : i - offR ns r < told.length := by omega
    have ea : (told.map optD)[i - offR ns r]? = some (optD told[i - offR ns r]) := by simp [hlt]
    have et : told[i - offR ns r]?.getD none = told[i - offR ns r] := by simp [hlt]
    rw [ea] at da
    rw [et] at rt
    have mo := hm told[i - offR ns r] (List.getElem_mem hlt)
    have mw := markword_ev (μ := μ) mo
    have ml := mark_len mo
    rw [da] at inD
    generalize told[i - offR ns r] = o at *
    have z2 : z.length + 1 ≤ 16777216 := by omega
    have z2' : z.length ≤ 16777215 := by omega
    have z3 : z.length + 1 + (markW o).length ≤ 16777216 := by omega
    have z4 : (markW o).length ≤ 16777216 := by omega
    have l1 : (z ++ sp).length = z.length + 1 := by rw [len_app, p3]
    simp [inD, da, kD, mw, sp_eq, empty_app, p3, p6, z1, z2, z2', z3, z4, l1, sizeLine_eq, rt, app_assoc]
  · rw [if_neg h] at rt da
    rw [da] at inD
    simp [inD, rt]
theorem mark_rows_ev (B : Bows μ) (w : Webs ns ts) (hr : Rul r) (hm : ∀ o ∈ told, MarkOk o) (hl : told.length = sizeOf r ns.length ts.length) : m_mark_rows [webO ns ts, .str r, .tup (told.map optD)] μ = .ok (.tup (strsD (text ns ts r told))) μ := by
  have n5 := w.n5
  have t5 := w.t5
  have ct := check_told_ev (μ := μ) B.clean w hr hm hl
  have rb : m_rows_by [webO ns ts, .str r, .tup (told.map optD)] μ = .ok (.tup (strsD (text ns ts r told))) μ := by
    obtain ⟨_, _, p3, _, _, p6, p7, p8⟩ := place_sp_len
    have l1 := rows1_ev (μ := μ) w
    have l2 := rows2_ev (μ := μ) w
    have l3 := rows3_ev (μ := μ) w hr
    have l4 := rows4_ev (μ := μ) w hr hm hl
    have hk1 : ns.length + ts.length ≤ 16777216 := by omega
    have m1 : ∀ ρ, hMul (.lst [.str sPlace]) (.int ns.length) ρ μ = .ok (.frs (.lst (strsD (List.replicate ns.length sPlace)))) ρ μ := fun ρ => by rw [ev_mul_lst (by omega) (by simp), rep_str]
    have m2 : ∀ ρ, hMul (.lst [.str sTie]) (.int ts.length) ρ μ = .ok (.frs (.lst (strsD (List.replicate ts.length sTie)))) ρ μ := fun ρ => by rw [ev_mul_lst (by omega) (by simp), rep_str]
    have pp := fun (a1 a2 a3 a4 a5 a6 a7 a8 a9 a10 a11 a12 : Sl) => prop_ok (C := "Web") (m := m_Web_places) (g := gName 0) (ρ := [.fz (webO ns ts), a1, a2, a3, a4, a5, a6, a7, a8, a9, a10, a11, a12]) (ρ' := [.fz (webO ns ts), a1, a2, a3, a4, a5, a6, a7, a8, a9, a10, a11, a12]) (μ := μ) (μ1 := μ) (fs := webF ns ts) rfl places_p
    have pt := fun (a1 a2 a3 a4 a5 a6 a7 a8 a9 a10 a11 a12 : Sl) => prop_ok (C := "Web") (m := m_Web_ties) (g := gName 0) (ρ := [.fz (webO ns ts), a1, a2, a3, a4, a5, a6, a7, a8, a9, a10, a11, a12]) (ρ' := [.fz (webO ns ts), a1, a2, a3, a4, a5, a6, a7, a8, a9, a10, a11, a12]) (μ := μ) (μ1 := μ) (fs := webF ns ts) rfl ties_p
    have nd : ((List.range (sizeOf r ns.length ts.length)).map (offR ns r + ·)).Nodup := List.pairwise_map.mpr (List.nodup_range.imp fun {a b} h e => h (by omega))
    have hd : headsL ns ts = ns.map (fun n => sPlace ++ sp ++ n) ++ ts.map fun p => sTie ++ sp ++ p.1 ++ sp ++ p.2 := rfl
    have kd : kindsL ns ts = List.replicate ns.length sPlace ++ List.replicate ts.length sTie := rfl
    have dz := fun (a0 a1 a3 a4 a5 a6 a7 a9 a10 a11 a12 : Sl) => dictzip_ok (t := aCons (gName 8) (aCons (gName 2) aNil)) (ρ := [a0, a1, .fz (.tup (told.map optD)), a3, a4, a5, a6, a7, .ow (.lst (((List.range (sizeOf r ns.length ts.length)).map (offR ns r + ·)).map fun i => D.int (i : Nat))), a9, a10, a11, a12]) (ρ' := [a0, a1, .fz (.tup (told.map optD)), a3, a4, a5, a6, a7, .fz (.lst (((List.range (sizeOf r ns.length ts.length)).map (offR ns r + ·)).map fun i => D.int (i : Nat))), a9, a10, a11, a12]) (μ := μ) (μ' := μ) (l := (List.range (sizeOf r ns.length ts.length)).map (offR ns r + ·)) (es := told.map optD) (by simp) nd (by simp [hl])
    have tr := text_rows (ns := ns) (ts := ts) (r := r) (told := told)
    generalize hKS : (((List.range (sizeOf r ns.length ts.length)).map (offR ns r + ·)).map fun i => D.int (i : Nat)) = KS at *
    have hlen1 : (ns.map fun n => sPlace ++ sp ++ n).length = ns.length := by simp
    have hlen2 : (ts.map fun p => sTie ++ sp ++ p.1 ++ sp ++ p.2).length = ts.length := by simp
    generalize (ns.map fun n => sPlace ++ sp ++ n) = H1 at *
    generalize (ts.map fun p => sTie ++ sp ++ p.1 ++ sp ++ p.2) = H2 at *
    have r1 : (List.replicate ns.length sPlace).length = ns.length := by simp
    have r2 : (List.replicate ts.length sTie).length = ts.length := by simp
    generalize List.replicate ns.length sPlace = R1 at *
    generalize List.replicate ts.length sTie = R2 at *
    rw [hd] at l4
    rw [kd] at l3
    rw [tr]
    have rl := hr.len
    have rl1 : r.length ≤ 16777216 := by omega
    have rl2 : 5 + r.length ≤ 16777216 := by omega
    have rows : ((List.range (ns.length + ts.length)).map (rowText ns ts r told)).length = ns.length + ts.length := by simp
    generalize (List.range (ns.length + ts.length)).map (rowText ns ts r told) = RT at *
    have hk2 : ns.length + ts.length ≤ 16777215 := by omega
    simp [m_rows_by_eq, l1, l2, pp, pt, m1, m2, hlen1, hlen2, r1, r2, strsD_len, hk1, sizeLine_eq, strsD_app]
    simp [l3, dz, l4, sp_eq, empty_app, p3, p6, p7, p8, rl1, rl2, rows, strsD_len, hk2, sizeLine_eq]
    rfl
  unfold webO at ct rb ⊢
  simp [m_mark_rows_eq, ct, rb]
end
end Nk83
set_option maxRecDepth 100000
set_option maxHeartbeats 4000000
namespace Nk83
open PySem DL
section
variable {μ : Mu} {ns : List Str} {ts : List (Str × Str)} {r : Str} {told other : List (Option Int)}
/-! ### kind by kind -/
mutual
def SD : Nat → D → Bool
  | _, .non => true
  | _, .bl _ => true
  | _, .int _ => true
  | _, .str x => PyData.strOk x
  | n + 1, .tup ds => decide (ds.length ≤ 100) && SDs n ds
  | _, _ => false
def SDs : Nat → List D → Bool
  | _, [] => true
  | n, d :: ds => SD n d && SDs n ds
end
theorem SDs.get : ∀ {ds : List D} {n : Nat} {d : D}, SDs n ds = true → d ∈ ds → SD n d = true
  | e :: ds, n, d, h, m => by
    simp only [SDs, Bool.and_eq_true] at h
    rcases List.mem_cons.mp m with rfl | m
    · exact h.1
    · exact SDs.get h.2 m
  | [], _, _, _, m => by simp at m
theorem kits : L2.kitB "tuple" "tuple" = some true ∧ L2.kitB "NoneType" "tuple" = some false ∧ L2.kitB "bool" "tuple" = some false ∧ L2.kitB "int" "tuple" = some false ∧ L2.kitB "str" "tuple" = some false ∧
   L2.kitB "bool" "bool" = some true ∧ L2.kitB "int" "bool" = some false ∧ L2.kitB "int" "int" = some true ∧ L2.kitB "str" "bool" = some false ∧ L2.kitB "str" "int" = some false ∧ L2.kitB "str" "str" = some true := by decide +kernel
theorem same_refl : ∀ (n : Nat) (d : D), SD n d = true → seeD μ d = d → m__law_same (n + 1) [d, d] μ = .ok (.bl true) μ := by
  obtain ⟨k1, k2, k3, k4, k5, k6, k7, k8, k9, k10, k11⟩ := kits
  intro n
  induction n with
  | zero =>
    intro d h hs
    cases d with
    | non =>
      have t : isiT cls "tuple" (tyOf μ .non) = some false := k2
      simp [m__law_same_eq, t]
    | bl b =>
      have t : isiT cls "tuple" (tyOf μ (.bl b)) = some false := k3
      have t2 : isiT cls "bool" (tyOf μ (.bl b)) = some true := k6
      simp [m__law_same_eq, t, t2]
    | int i =>
      have t : isiT cls "tuple" (tyOf μ (.int i)) = some false := k4
      have t2 : isiT cls "bool" (tyOf μ (.int i)) = some false := k7
      have t3 : isiT cls "int" (tyOf μ (.int i)) = some true := k8
      simp [m__law_same_eq, t, t2, t3]
    | str x =>
      have t : isiT cls "tuple" (tyOf μ (.str x)) = some false := k5
      have t2 : isiT cls "bool" (tyOf μ (.str x)) = some false := k9
      have t3 : isiT cls "int" (tyOf μ (.str x)) = some false := k10
      have t4 : isiT cls "str" (tyOf μ (.str x)) = some true := k11
      have e : eqB (.str x) (.str x) = some true := by rw [eq_str h h]; simp
      simp [m__law_same_eq, t, t2, t3, t4, e]
    | _ => simp [SD] at h
  | succ n ih =>
    intro d h hs
    cases d with
    | non =>
      have t : isiT cls "tuple" (tyOf μ .non) = some false := k2
      simp [m__law_same_eq, t]
    | bl b =>
      have t : isiT cls "tuple" (tyOf μ (.bl b)) = some false := k3
      have t2 : isiT cls "bool" (tyOf μ (.bl b)) = some true := k6
      simp [m__law_same_eq, t, t2]
    | int i =>
      have t : isiT cls "tuple" (tyOf μ (.int i)) = some false := k4
      have t2 : isiT cls "bool" (tyOf μ (.int i)) = some false := k7
      have t3 : isiT cls "int" (tyOf μ (.int i)) = some true := k8
      simp [m__law_same_eq, t, t2, t3]
    | str x =>
      have t : isiT cls "tuple" (tyOf μ (.str x)) = some false := k5
      have t2 : isiT cls "bool" (tyOf μ (.str x)) = some false := k9
      have t3 : isiT cls "int" (tyOf μ (.str x)) = some false := k10
      have t4 : isiT cls "str" (tyOf μ (.str x)) = some true := k11
      have e : eqB (.str x) (.str x) = some true := by rw [eq_str h h]; simp
      simp [m__law_same_eq, t, t2, t3, t4, e]
    | tup ds =>
      have t : isiT cls "tuple" (tyOf μ (.tup ds)) = some true := k1
      simp only [SD, Bool.and_eq_true, decide_eq_true_eq] at h
      obtain ⟨hl, hd⟩ := h
      have see : ∀ d ∈ ds, seeD μ d = d := fun d hm => by
        have := SDs.get hd hm
        cases d <;> first | rfl | (cases n <;> simp [SD] at this)
      have lc : lc__law_same_1 (m__law_same (n + 1)) [.fz (.tup ds), .fz (.tup ds), .un] μ = .ok (.frs (.lst ((List.range ds.length).map fun _ => .bl true))) [.fz (.tup ds), .fz (.tup ds), .un] μ := by
        have e : ((List.range ds.length).map fun _ => D.bl true) = (rngD 0 ds.length).map fun _ => .bl true := by simp [rngD]
        rw [e, lc__law_same_1_eq]
        refine gLc_map _ (rng1_ok (by simp) (by omega)) (by simp) (by rw [rng_len, sizeLine_eq]; omega) (fun d hdm => ?_)
        obtain ⟨i, hi0⟩ := List.getElem?_of_mem hdm
        obtain ⟨rfl, hi⟩ := rng_get hi0
        have g := ih ds[i] (SDs.get hd (List.getElem_mem hi)) (see _ (List.getElem_mem hi))
        refine ⟨[.fz (.tup ds), .fz (.tup ds), .fz (.int i)], ?_, by simp⟩
        simp [at_nat, hi, g]
      have a := all_map (fun _ : Nat => true) (List.range ds.length)
      have a2 : ((List.range ds.length).all fun _ => true) = true := by simp
      rw [a2] at a
      generalize (List.range ds.length).map (fun _ => D.bl true) = L at *
      rw [m__law_same_eq (n + 1)]
      simp [t, lc, a]
    | _ => simp [SD] at h
theorem SDs_strs {n : Nat} : ∀ {l : List Str}, (∀ x ∈ l, PyData.strOk x = true) → SDs n (strsD l) = true
  | [], _ => by cases n <;> rfl
  | x :: l, h => by
    show (SD n (.str x) && SDs n (strsD l)) = true
    rw [SDs_strs fun y hy => h y (List.mem_cons_of_mem _ hy)]
    have := h x (by simp)
    cases n <;> simp [SD, this]
theorem SDs_opts {n : Nat} : ∀ l : List (Option Int), SDs n (l.map optD) = true
  | [] => by cases n <;> rfl
  | x :: l => by
    show (SD n (optD x) && SDs n (l.map optD)) = true
    rw [SDs_opts l]
    cases x <;> cases n <;> rfl
theorem SDs_pairs {n : Nat} : ∀ {l : List (Str × Str)}, (∀ x ∈ l, PyData.strOk x.1 = true ∧ PyData.strOk x.2 = true) → SDs (n + 1) (l.map pairD) = true
  | [], _ => rfl
  | x :: l, h => by
    show (SD (n + 1) (pairD x) && SDs (n + 1) (l.map pairD)) = true
    rw [SDs_pairs fun y hy => h y (List.mem_cons_of_mem _ hy)]
    obtain ⟨a, b⟩ := h x (by simp)
    cases n <;> simp [pairD, SD, SDs, a, b]
theorem plain_web (w : Webs ns ts) : plainD (webD ns ts) := by
  obtain ⟨p, e, s⟩ := plain_strs w.names.oks
  obtain ⟨q, e2, s2⟩ := plain_pairs (Ties.oks w.names w.ties)
  refine ⟨.tuple [p, q], ?_, ?_⟩
  · show (((toPy (.tup (strsD ns))).bind fun p => ((toPy (.tup (ts.map pairD))).bind fun q => (some []).map (q :: ·)).map (p :: ·))).map PyData.tuple = _
    rw [e, e2]; rfl
  · simp only [SeqAt.shaped, Bool.and_eq_true, decide_eq_true_eq] at s s2 ⊢
    obtain ⟨v, e3, rfl⟩ := Option.map_eq_some_iff.mp (show (toPys (strsD ns)).map PyData.tuple = some p from e)
    rw [toPys_strs] at e3
    cases e3
    obtain ⟨v2, e4, rfl⟩ := Option.map_eq_some_iff.mp (show (toPys (ts.map pairD)).map PyData.tuple = some q from e2)
    rw [toPys_pairs] at e4
    cases e4
    have d1 := (lay_strs w.names.oks).2
    have d2 := (lay_pairs (Ties.oks w.names w.ties)).2
    refine ⟨?_, ?_⟩
    · simp only [PyData.canLay0, PyData.canLayAll0] at s s2 ⊢
      simp [s.1, s2.1]
    · simp only [PyData.depth, PyData.depthAll] at s s2 ⊢
      rw [d1]
      omega
theorem web_eq_ev (w : Webs ns ts) : m_Web___eq__ [webO ns ts, webO ns ts] μ = .ok (.bl true) μ := by
  have i : isiC cls "Web" (tyOf μ (webO ns ts)) = some true := by
    show isiC cls "Web" (some (.c "Web")) = some true
    decide +kernel
  have s : seeD μ (webO ns ts) = webO ns ts := rfl
  have s2 : seeD μ (webD ns ts) = webD ns ts := rfl
  have p1 := prop_ok (C := "Web") (m := m_Web_parts) (g := gName 0) (ρ := [.fz (webO ns ts), .fz (webO ns ts)]) (ρ' := [.fz (webO ns ts), .fz (webO ns ts)]) (μ := μ) (μ1 := μ) (fs := webF ns ts) rfl parts_ev
  have p2 := prop_ok (C := "Web") (m := m_Web_parts) (g := gName 1) (ρ := [.fz (webO ns ts), .fz (webO ns ts)]) (ρ' := [.fz (webO ns ts), .fz (webO ns ts)]) (μ := μ) (μ1 := μ) (fs := webF ns ts) rfl parts_ev
  have e := DL.eq_self (plain_web w)
  simp [m_Web___eq___eq, s, s2, i, p1, p2, e]
theorem text_inj (B : Bows μ) (w : Webs ns ts) (hr : Rul r) (hm : ∀ o ∈ told, MarkOk o) (hl : told.length = sizeOf r ns.length ts.length) (hm2 : ∀ o ∈ other, MarkOk o) (hl2 : other.length = sizeOf r ns.length ts.length) : text ns ts r other = text ns ts r told ↔ other = told := by
  constructor
  · intro e
    have a := read_ev B w hr hm hl
    have b := read_ev B w hr hm2 hl2
    rw [e, a] at b
    have c : told.map optD = other.map optD := by
      have := RF.ok.inj b
      have := D.tup.inj this.1
      simp at this
      exact this
    have inj : ∀ x y : Option Int, optD x = optD y → x = y := fun x y h => by
      cases x <;> cases y <;> simp [optD] at h ⊢
      exact h
    exact (List.map_inj_right inj).mp c.symm
  · intro e
    rw [e]
end
end Nk83
set_option maxRecDepth 100000
set_option maxHeartbeats 4000000
namespace Nk83
open PySem DL
section
variable {μ : Mu} {ns : List Str} {ts : List (Str × Str)} {r : Str} {told other : List (Option Int)} {i : Nat}
theorem draw_mark (B : Bows μ) (hi : i < μ.length) : ∃ (o : Option Int) (μ' : Mu), (∀ ρ : DL.Env, ρ[0]? = some (.fz (.mrf i)) → gCall 2 m__law_of (aCons (gName 0) (aCons (gTup (aCons (gC .non) (aCons (gCall 2 m__law_draw (aCons (gName 0) (aCons (gC (.int 12)) aNil))) (aCons (gC (.int 0)) aNil)))) aNil)) ρ μ = .ok (.val (optD o)) ρ μ') ∧ Bows μ' ∧ μ'.length = μ.length ∧ MarkOk o := by
  obtain ⟨q, μ1, e1, B1, l1, q1, q2⟩ := draw_ev B hi (many := 12) (by omega) (by omega)
  obtain ⟨d, μ2, e2, B2, l2, hd⟩ := of_ev B1 (i := i) (by omega) (ds := [.non, .int q, .int 0]) (by simp) (by simp)
  obtain ⟨o, rfl, ho⟩ : ∃ o, d = optD o ∧ MarkOk o := by
    simp at hd
    rcases hd with rfl | rfl | rfl
    · exact ⟨none, rfl, .inl rfl⟩
    · exact ⟨some q, rfl, .inr ⟨q, rfl, q1, q2⟩⟩
    · exact ⟨some 0, rfl, .inr ⟨0, rfl, by omega, by omega⟩⟩
  refine ⟨o, μ2, fun ρ h0 => ?_, B2, by omega, ho⟩
  simp [h0, e1, e2, sizeLine_eq]
theorem marks_ev (lc : EF Vl) (hlc : lc = gLc [6] (iRng1 (aCons (gName 3) aNil)) (toName 6) tYesB (gCall 2 m__law_of (aCons (gName 0) (aCons (gTup (aCons (gC .non) (aCons (gCall 2 m__law_draw (aCons (gName 0) (aCons (gC (.int 12)) aNil))) (aCons (gC (.int 0)) aNil)))) aNil)))) (B : Bows μ) (hi : i < μ.length) {n : Nat} (hn : n ≤ 100) (a1 a2 a4 a5 a7 a8 a9 : Sl) :
    ∃ (l : List (Option Int)) (μ' : Mu), lc [.fz (.mrf i), a1, a2, .fz (.int n), a4, a5, .un, a7, a8, a9] μ = .ok (.frs (.lst (l.map optD))) [.fz (.mrf i), a1, a2, .fz (.int n), a4, a5, .un, a7, a8, a9] μ' ∧ Bows μ' ∧ μ'.length = μ.length ∧ l.length = n ∧ ∀ o ∈ l, MarkOk o := by
  obtain ⟨out, μ', e, l, rfl, B', l', ln, mo⟩ := gLc_run (vs := [6]) (it := iRng1 (aCons (gName 3) aNil)) (tg := toName 6) (cnd := tYesB) (elt := gCall 2 m__law_of (aCons (gName 0) (aCons (gTup (aCons (gC .non) (aCons (gCall 2 m__law_draw (aCons (gName 0) (aCons (gC (.int 12)) aNil))) (aCons (gC (.int 0)) aNil)))) aNil)))
    (ρ0 := [.fz (.mrf i), a1, a2, .fz (.int n), a4, a5, .un, a7, a8, a9]) (ρ := [.fz (.mrf i), a1, a2, .fz (.int n), a4, a5, .un, a7, a8, a9]) (μ0 := μ) (μ := μ) (ds := rngD 0 n)
    (fun k acc μ' => ∃ l : List (Option Int), acc = l.map optD ∧ Bows μ' ∧ μ'.length = μ.length ∧ l.length = k ∧ ∀ o ∈ l, MarkOk o) (rng1_ok (by simp) (by omega)) (by simp) (by rw [rng_len, sizeLine_eq]; omega) ⟨[], rfl, B, rfl, rfl, by simp⟩ (fun k d acc μ2 hd h => by
      obtain ⟨l, rfl, B2, l2, ln, mo⟩ := h
      obtain ⟨rfl, hk⟩ := rng_get hd
      obtain ⟨o, μ3, e3, B3, l3, ho⟩ := draw_mark B2 (i := i) (by omega)
      have e4 := e3 [.fz (.mrf i), a1, a2, .fz (.int n), a4, a5, .fz (.int k), a7, a8, a9] rfl
      refine ⟨some (optD o), [.fz (.mrf i), a1, a2, .fz (.int n), a4, a5, .fz (.int k), a7, a8, a9], μ3, ?_, by simp, l ++ [o], by simp [addD], B3, by omega, by simp [ln], ?_⟩
      · rw [ev_turn, ev_toName]
        dsimp only [List.set_cons_succ, List.set_cons_zero, wipeR]
        rw [ev_yes]
        dsimp only
        rw [if_pos rfl, ev_frz, e4]
        rfl
      · intro x hx
        rcases List.mem_append.mp hx with hx | hx
        · exact mo x hx
        · rw [List.mem_singleton.mp hx]; exact ho)
  rw [rng_len] at ln
  exact ⟨l, μ', by rw [hlc]; exact e, B', l', ln, mo⟩
theorem ev_callK (n0 n1 : Nat) (ix : List Nat) (n : Nat) (m : DF) (t tk : EF (List D)) {ρ : DL.Env} {μ : Mu} : gCallK n0 n1 ix n m t tk ρ μ = (match t ρ μ with
  | .ok ds ρ' μ' => (match tk ρ' μ' with
    | .ok es ρ2 μ2 => callK n0 n1 ix n m ds es ρ2 μ2
    | .exc x ρ' μ' => .exc x ρ' μ'
    | .no => .no)
  | .exc x ρ' μ' => .exc x ρ' μ'
  | .no => .no) := by
  simp only [gCallK, bnd]
  cases t ρ μ with
  | ok ds ρ' μ' =>
    dsimp only
    cases tk ρ' μ' <;> rfl
  | _ => rfl
theorem callK_ok {n0 n1 : Nat} {ix : List Nat} {n : Nat} {m : DF} {ds es : List D} {ρ : DL.Env} {μ : Mu} (h : ds.length = n0) (h2 : es.length = n1) : callK n0 n1 ix n m ds es ρ μ = callV n m (ordK ix ds es) ρ μ := by
  unfold callK
  rw [if_pos ⟨h, h2⟩]
theorem eqO_refl {C : Str} {m : DF} {ga gb : EF Vl} {ρ ρ' : DL.Env} {μ μ' : Mu} {ds es : List D} (ha : gFrz ga ρ μ = .ok (.val (.tup ds)) ρ' μ') (hb : gFrz gb ρ' μ' = .ok (.val (.tup es)) ρ' μ') (h : EqTs C m μ' ds es) : gEqO C m ga gb ρ μ = .ok (.val (.bl true)) ρ' μ' := by
  unfold gEqO
  rw [ev_bnd, ha]
  dsimp only
  rw [ev_bnd, hb]
  dsimp only
  show hEqO C m (.tup ds) (.tup es) ρ' μ' = _
  unfold hEqO
  dsimp only
  rw [if_pos h]
theorem right_turn (B : Bows μ) (hi : i < μ.length) (hr : Rul r) (a1 a2 a3 a4 a5 a7 a8 a9 : Sl) :
    ∃ s2 s3 s4 s5 s7 s8 s9 μ', fb__law_right_3 [.fz (.mrf i), .fz (.str r), a2, a3, a4, a5, .un, a7, a8, a9] μ = .nx [.fz (.mrf i), .fz (.str r), s2, s3, s4, s5, .un, s7, s8, s9] μ' ∧ Bows μ' ∧ μ'.length = μ.length := by
  obtain ⟨ns, ts, μ1, e1, B1, l1, w⟩ := web_ev B hi
  have e2 := size_ev (μ := μ1) (ns := ns) (ts := ts) hr
  have e3 := made_ev B1 w
  have n5 := w.n5
  have t5 := w.t5
  have s100 : sizeOf r ns.length ts.length ≤ 100 := by
    unfold sizeOf
    split
    · omega
    · split <;> omega
  obtain ⟨told, μ2, e4, B2, l2, hl, hm⟩ := marks_ev (i := i) lc__law_right_1 lc__law_right_1_eq B1 (by omega) s100 (.fz (.str r)) (.fz (webD ns ts)) (.fz (webO ns ts)) a5 a7 a8 a9
  obtain ⟨other, μ3, e5, B3, l3, hl2, hm2⟩ := marks_ev (i := i) lc__law_right_2 lc__law_right_2_eq B2 (by omega) s100 (.fz (.str r)) (.fz (webD ns ts)) (.fz (webO ns ts)) (.fz (.tup (told.map optD))) a7 a8 a9
  have e6 := text_ev (μ := μ3) w hr hm hl
  have e7 := read_ev B3 w hr hm hl
  have e8 := mark_rows_ev B3 w hr hm hl
  have e9 := mark_rows_ev B3 w hr hm2 hl2
  have e10 := read_ev B3 w hr hm2 hl2
  have tok := text_ok (r := r) (told := told) w hr hm
  have tok2 := text_ok (r := r) (told := other) w hr hm2
  have inj := text_inj B3 w hr hm hl hm2 hl2
  have q1 := eq_strs tok2 tok
  rw [show decide (text ns ts r other = text ns ts r told) = decide (other = told) from decide_eq_decide.mpr inj] at q1
  have q2 := eq_opts other told
  have tl : ∀ l, (text ns ts r l).length ≤ 100 := fun l => by
    unfold text
    rw [List.length_map, rowsW_len]
    omega
  have sT : ∀ l, (∀ x ∈ text ns ts r l, PyData.strOk x = true) → ∀ n, SD (n + 1) (.tup (strsD (text ns ts r l))) = true := fun l h n => by
    simp only [SD, Bool.and_eq_true, decide_eq_true_eq]
    exact ⟨by rw [strsD_len]; exact tl l, SDs_strs h⟩
  have sO : ∀ l : List (Option Int), l.length ≤ 100 → ∀ n, SD (n + 1) (.tup (l.map optD)) = true := fun l h n => by
    simp only [SD, Bool.and_eq_true, decide_eq_true_eq]
    exact ⟨by rw [List.length_map]; exact h, SDs_opts l⟩
  have sW : ∀ n, SD (n + 3) (webD ns ts) = true := fun n => by
    unfold webD
    simp only [SD, SDs, Bool.and_eq_true, decide_eq_true_eq]
    exact ⟨by simp, ⟨by rw [strsD_len]; omega, SDs_strs w.names.oks⟩, ⟨by rw [List.length_map]; omega, SDs_pairs (Ties.oks w.names w.ties)⟩, trivial⟩
  have r1 := same_refl (μ := μ3) 5 (.tup [.tup (strsD (text ns ts r told)), .tup (strsD (text ns ts r told))]) (by
    have := sT told tok
    simp only [SD, SDs, Bool.and_eq_true, decide_eq_true_eq] at this ⊢
    exact ⟨by simp, this 3, this 3, trivial⟩) rfl
  have r2 := same_refl (μ := μ3) 5 (.tup [webD ns ts, .tup [.str r, .tup (told.map optD)], .bl true]) (by
    have a := sW 1
    have b := sO told (by omega) 2
    have c : PyData.strOk r = true := ok_low hr.low
    simp only [SD, SDs, Bool.and_eq_true, decide_eq_true_eq] at b ⊢
    exact ⟨by simp, a, ⟨by simp, c, b, trivial⟩, trivial, trivial⟩) rfl
  have r3 := same_refl (μ := μ3) 5 (.tup [.bl (decide (other = told)), .tup (other.map optD)]) (by
    have b := sO other (by omega) 3
    simp only [SD, SDs, Bool.and_eq_true, decide_eq_true_eq] at b ⊢
    exact ⟨by simp, trivial, b, trivial⟩) rfl
  have sW1 : seeD μ3 (webO ns ts) = webO ns ts := rfl
  have sW2 : seeD μ3 (webD ns ts) = webD ns ts := rfl
  have sW3 : seeD μ1 (webD ns ts) = webD ns ts := rfl
  generalize hS : (sizeOf r ns.length ts.length : Nat) = S at *
  have k0 : L2.atI [webO ns ts, D.str r, .tup (told.map optD)] 0 = some (webO ns ts) := rfl
  have k2 : L2.atI [webO ns ts, D.str r, .tup (other.map optD)] 2 = some (.tup (other.map optD)) := rfl
  have cd : cutD [webO ns ts, D.str r, .tup (told.map optD)] (some 1) none = [D.str r, .tup (told.map optD)] := drop1 _
  have o1 : ordK [2, 1, 0] ([] : List D) [.tup (told.map optD), .str r, webO ns ts] = [webO ns ts, .str r, .tup (told.map optD)] := rfl
  have o2 : ordK [0] ([] : List D) [.tup (strsD (text ns ts r told))] = [.tup (strsD (text ns ts r told))] := rfl
  have pp := prop_ok (C := "Web") (m := m_Web_parts) (g := g2 hIx (gName 9) (gC (.int 0))) (ρ := [.fz (.mrf i), .fz (.str r), .fz (webD ns ts), .fz (.int S), .fz (webO ns ts), .fz (.tup (told.map optD)), .un, .fz (.tup (other.map optD)), .fz (.tup (strsD (text ns ts r told))), .fz (.tup [webO ns ts, .str r, .tup (told.map optD)])]) (ρ' := [.fz (.mrf i), .fz (.str r), .fz (webD ns ts), .fz (.int S), .fz (webO ns ts), .fz (.tup (told.map optD)), .un, .fz (.tup (other.map optD)), .fz (.tup (strsD (text ns ts r told))), .fz (.tup [webO ns ts, .str r, .tup (told.map optD)])]) (μ := μ3) (μ1 := μ3) (fs := webF ns ts) (by simp [k0]; rfl) parts_ev
  have eqt : EqTs "Web" m_Web___eq__ μ3 [webO ns ts, .str r, .tup (told.map optD)] [webO ns ts, .str r, .tup (told.map optD)] := by
    refine ⟨.inr ⟨webF ns ts, webF ns ts, rfl, rfl, web_eq_ev w⟩, .inl ?_, .inl ?_, trivial⟩
    · rw [eq_str (ok_low hr.low) (ok_low hr.low)]; simp
    · rw [eq_opts]; simp
  have qO := eqO_refl (C := "Web") (m := m_Web___eq__) (ga := gCallK 0 1 [0] 1 m_read_marks aNil (aCons (gName 8) aNil)) (gb := gTup (aCons (gName 4) (aCons (gName 1) (aCons (gName 5) aNil)))) (ρ := [.fz (.mrf i), .fz (.str r), .fz (webD ns ts), .fz (.int S), .fz (webO ns ts), .fz (.tup (told.map optD)), .un, .fz (.tup (other.map optD)), .fz (.tup (strsD (text ns ts r told))), .fz (.tup [webO ns ts, .str r, .tup (told.map optD)])]) (ρ' := [.fz (.mrf i), .fz (.str r), .fz (webD ns ts), .fz (.int S), .fz (webO ns ts), .fz (.tup (told.map optD)), .un, .fz (.tup (other.map optD)), .fz (.tup (strsD (text ns ts r told))), .fz (.tup [webO ns ts, .str r, .tup (told.map optD)])]) (μ := μ3) (μ' := μ3) (ds := [webO ns ts, .str r, .tup (told.map optD)]) (es := [webO ns ts, .str r, .tup (told.map optD)]) (by simp [ev_callK, callK_ok, o2, e7]) (by simp [sizeLine_eq]) eqt
  refine ⟨.fz (webD ns ts), .fz (.int S), .fz (webO ns ts), .fz (.tup (told.map optD)), .fz (.tup (other.map optD)), .fz (.tup (strsD (text ns ts r told))), .fz (.tup [webO ns ts, .str r, .tup (told.map optD)]), μ3, ?_, B3, by omega⟩
  rw [fb__law_right_3_eq]
  generalize text ns ts r told = T1 at *
  generalize text ns ts r other = T2 at *
  generalize webO ns ts = WO at *
  generalize webD ns ts = WD at *
  simp [e1, e2, e3, e4, e5, e6, e7]
  simp [e8, e9, e10, ev_callK, callK_ok, o1, pp, qO, k0, k2, cd, q1, q2, r1, r2, r3, sizeLine_eq, sW1, sW2]
end
end Nk83
set_option maxRecDepth 100000
set_option maxHeartbeats 4000000
namespace Nk83
open PySem DL
theorem right_ev {μ : Mu} {i : Nat} (B : Bows μ) (hi : i < μ.length) : ∃ μ', m__law_right [.mrf i] μ = .ok (.bl true) μ' ∧ Bows μ' ∧ μ'.length = μ.length := by
  have nine : ∀ r ∈ (["steps", "rests", "halves", "like", "unlike", "lucky", "ones", "far", "free"] : List Str), r ∈ RULES := by decide +kernel
  obtain ⟨ρ', μ', e, s1, s2, s3, s4, s5, s7, s8, s9, rfl, B', l'⟩ := sFor_run (it := iAny (gTup (aCons (gC (.str "steps")) (aCons (gC (.str "rests")) (aCons (gC (.str "halves")) (aCons (gC (.str "like")) (aCons (gC (.str "unlike")) (aCons (gC (.str "lucky")) (aCons (gC (.str "ones")) (aCons (gC (.str "far")) (aCons (gC (.str "free")) aNil))))))))))) (tg := toName 1) (body := fb__law_right_3)
    (ρ0 := [.fz (.mrf i), .un, .un, .un, .un, .un, .un, .un, .un, .un]) (ρ := [.fz (.mrf i), .un, .un, .un, .un, .un, .un, .un, .un, .un]) (μ0 := μ) (μ := μ) (ds := strsD ["steps", "rests", "halves", "like", "unlike", "lucky", "ones", "far", "free"])
    (fun k ρ μ' => ∃ s1 s2 s3 s4 s5 s7 s8 s9, ρ = [.fz (.mrf i), s1, s2, s3, s4, s5, .un, s7, s8, s9] ∧ Bows μ' ∧ μ'.length = μ.length) (by simp [sizeLine_eq]; rfl) ⟨_, _, _, _, _, _, _, _, rfl, B, rfl⟩ (fun k d ρ μ2 hd h => by
      obtain ⟨s1, s2, s3, s4, s5, s7, s8, s9, rfl, B2, l2⟩ := h
      obtain ⟨r, hr, rfl⟩ := List.mem_map.mp (show d ∈ (["steps", "rests", "halves", "like", "unlike", "lucky", "ones", "far", "free"] : List Str).map D.str from List.mem_of_getElem? hd)
      obtain ⟨t2, t3, t4, t5, t7, t8, t9, μ3, e3, B3, l3⟩ := right_turn B2 (i := i) (by omega) ⟨nine r hr⟩ s1 s2 s3 s4 s5 s7 s8 s9
      exact ⟨_, _, _, μ3, rfl, .inl e3, _, _, _, _, _, _, _, _, rfl, B3, by omega⟩)
  rw [← fo__law_right_4_eq] at e
  exact ⟨μ', by simp [m__law_right_eq, e], B', l'⟩
theorem ev_ref {g : EF Vl} {ρ ρ' : DL.Env} {μ μ' : Mu} {ds : List D} (h : g ρ μ = .ok (.frs (.lst ds)) ρ' μ') : gRef g ρ μ = .ok (.val (.mrf μ'.length)) ρ' (μ' ++ [.lst ds]) := by
  unfold gRef
  rw [ev_bnd, h]
  rfl
theorem bowl_ev {μ : Mu} (B : Bows μ) (ns : List Int) (lap : Nat) (hl : lap < 3) (hn : ns.length ≤ 63) : ∃ μ', m__law_bowl [.scr (ns.map .int), .int lap] μ = .ok (.mrf μ.length) μ' ∧ Bows μ' ∧ μ'.length = μ.length + 1 := by
  have cu : cutD (ns.map D.int) none (some 9) = (ns.take 9).map .int := by
    rw [show (9 : Int) = ((9 : Nat) : Int) from rfl, cut_to, List.map_take]
  obtain ⟨ρ', μ', e, stir, s3, rfl, rfl⟩ := sFor_run (it := iAny (gSl (gName 0) pNone (pSome (gC (.int 9))))) (tg := toName 3) (body := fb__law_bowl_1)
    (ρ0 := [.fz (.scr (ns.map .int)), .fz (.int lap), .fz (.int (771041 + 8819 * lap)), .un, .un]) (ρ := [.fz (.scr (ns.map .int)), .fz (.int lap), .fz (.int (771041 + 8819 * lap)), .un, .un]) (μ0 := μ) (μ := μ) (ds := (ns.take 9).map .int)
    (fun k ρ μ' => ∃ (stir : Int) (s3 : Sl), ρ = [.fz (.scr (ns.map .int)), .fz (.int lap), .fz (.int stir), s3, .un] ∧ μ' = μ) (by
      have : ∀ (ρ : DL.Env), hSl none (some 9) (.scr (ns.map .int)) ρ μ = .ok (.frs (.lst (cutD (ns.map .int) none (some 9)))) ρ μ := fun ρ => rfl
      simp [this, cu]) ⟨_, _, rfl, rfl⟩ (fun k d ρ μ2 hd h => by
      obtain ⟨stir, s3, rfl, rfl⟩ := h
      obtain ⟨c, hc, rfl⟩ := List.mem_map.mp (List.mem_of_getElem? hd)
      have m1 : mulOk (c % 2147483053) 19 = true := mulOk_r (by omega) (by omega)
      have m2 : mulOk stir 48611 = true := mulOk_r (by omega) (by omega)
      refine ⟨_, _, [.fz (.scr (ns.map .int)), .fz (.int lap), .fz (.int ((stir * 48611 + c % 2147483053 * 19 + 41) % 2147483563)), .fz (.int c), .un], μ2, rfl, .inl ?_, _, _, rfl, rfl⟩
      simp [fb__law_bowl_1_eq, m1, m2])
  rw [← fo__law_bowl_2_eq] at e
  have m0 : mulOk 8819 (lap : Int) = true := mulOk_l (by omega) (by omega)
  have key : ∀ own : Int, ∃ x y : Int, (sSeq (sSet 2 (g2 iMod (g1 (h1 intD) (g2 hAdd (g2 hAdd (g2 hMul (gName 2) (gC (.int 53))) (g2 hMul (g2 iMod (gName 4) (gC (.int 2147483053))) (gC (.int 27011)))) (gC (.int 11)))) (gC (.int 2147483563))))
    (sRet (gRef (gLst (aCons (gIf (gOr (gB (g2 (hBool ltB) (gName 4) (gC (.int 0)))) (gB (g2 iGe (gName 4) (g2 iPow (gC (.int 10)) (gC (.int 16)))))) (g1 (h1 absD) (gName 4)) (gC (.int 0))) (aCons (gName 2) (aCons (gC (.int 0)) aNil))))))) [.fz (.scr (ns.map .int)), .fz (.int lap), .fz (.int stir), s3, .fz (.int own)] μ' = .rt (.mrf μ'.length) [.fz (.scr (ns.map .int)), .fz (.int lap), .fz (.int y), s3, .fz (.int own)] (μ' ++ [.lst [.int x, .int y, .int 0]]) := fun own => by
    have m1 : mulOk (own % 2147483053) 27011 = true := mulOk_r (by omega) (by omega)
    have m2 : mulOk stir 53 = true := mulOk_r (by omega) (by omega)
    have po : powOk 10 16 = true := by decide
    let y := (stir * 53 + own % 2147483053 * 27011 + 11) % 2147483563
    by_cases h : own < 0 ∨ 10000000000000000 ≤ own
    · have g : gLst (aCons (gIf (gOr (gB (g2 (hBool ltB) (gName 4) (gC (.int 0)))) (gB (g2 iGe (gName 4) (g2 iPow (gC (.int 10)) (gC (.int 16)))))) (g1 (h1 absD) (gName 4)) (gC (.int 0))) (aCons (gName 2) (aCons (gC (.int 0)) aNil))) [.fz (.scr (ns.map .int)), .fz (.int lap), .fz (.int y), s3, .fz (.int own)] μ' = .ok (.frs (.lst [.int (if own < 0 then -own else own), .int y, .int 0])) [.fz (.scr (ns.map .int)), .fz (.int lap), .fz (.int y), s3, .fz (.int own)] μ' := by
        rcases h with h | h
        · simp [h, sizeLine_eq]
        · have h' : ¬ own < 0 := by omega
          simp [h, h', po, sizeLine_eq]
      refine ⟨if own < 0 then -own else own, y, ?_⟩
      simp [m1, m2]
      rw [ev_ref g]
      rfl
    · have h1' : ¬ own < 0 := fun z => h (.inl z)
      have h2' : ¬ 10000000000000000 ≤ own := fun z => h (.inr z)
      have g : gLst (aCons (gIf (gOr (gB (g2 (hBool ltB) (gName 4) (gC (.int 0)))) (gB (g2 iGe (gName 4) (g2 iPow (gC (.int 10)) (gC (.int 16)))))) (g1 (h1 absD) (gName 4)) (gC (.int 0))) (aCons (gName 2) (aCons (gC (.int 0)) aNil))) [.fz (.scr (ns.map .int)), .fz (.int lap), .fz (.int y), s3, .fz (.int own)] μ' = .ok (.frs (.lst [.int 0, .int y, .int 0])) [.fz (.scr (ns.map .int)), .fz (.int lap), .fz (.int y), s3, .fz (.int own)] μ' := by
        simp [h1', h2', po, sizeLine_eq]
      refine ⟨0, y, ?_⟩
      simp [m1, m2]
      rw [ev_ref g]
      rfl
  have lt : ltB (.int (lap : Int)) (.int ((ns.map D.int).length : Nat)) = some (decide (lap < ns.length)) := by
    rw [lt_int]; simp
  by_cases h : lap < ns.length
  · obtain ⟨x, y, k⟩ := key ns[lap]
    have ea : (ns.map D.int)[lap]? = some (.int ns[lap]) := by simp [h]
    refine ⟨μ' ++ [.lst [.int x, .int y, .int 0]], ?_, fun m hm => ?_, by simp⟩
    · simp only [ev_seq] at k
      simp [m__law_bowl_eq, m0, e, h, at_nat]
      rw [show (MO.lst [D.int x, .int y, .int 0]) = .lst [.int x, .int y, .int 0] from rfl] at k
      simpa using congrArg endF k
    · rcases List.mem_append.mp hm with hm | hm
      · exact B m hm
      · exact ⟨x, y, 0, List.mem_singleton.mp hm⟩
  · obtain ⟨x, y, k⟩ := key 0
    refine ⟨μ' ++ [.lst [.int x, .int y, .int 0]], ?_, fun m hm => ?_, by simp⟩
    · simp only [ev_seq] at k
      simp [m__law_bowl_eq, m0, e, h]
      simpa using congrArg endF k
    · rcases List.mem_append.mp hm with hm | hm
      · exact B m hm
      · exact ⟨x, y, 0, List.mem_singleton.mp hm⟩
theorem law_ev (ns : List Int) (hn : ns.length ≤ 63) : ∃ μ, m_law [.scr (ns.map .int)] [] = .ok (.bl true) μ := by
  obtain ⟨n, hn1, hn3⟩ : ∃ n : Nat, (if (if (3 : Int) < (ns.length : Int) then (3 : Int) else (ns.length : Int)) > 1 then (if (3 : Int) < (ns.length : Int) then (3 : Int) else (ns.length : Int)) else 1) = (n : Int) ∧ n ≤ 3 := by
    by_cases h : (3 : Int) < ns.length
    · exact ⟨3, by rw [if_pos h]; rfl, by omega⟩
    · rw [if_neg h]
      by_cases h2 : (ns.length : Int) > 1
      · exact ⟨ns.length, by rw [if_pos h2], by omega⟩
      · exact ⟨1, by rw [if_neg h2]; rfl, by omega⟩
  obtain ⟨out, μ', e, l, B, _⟩ := gLc_run (vs := [1]) (it := iRng1 (aCons (g2 (h2 maxD) (gC (.int 1)) (g2 (h2 minD) (g1 hLen (gName 0)) (gC (.int 3)))) aNil)) (tg := toName 1) (cnd := tYesB) (elt := gCall 1 m__law_right (aCons (gCall 2 m__law_bowl (aCons (gName 0) (aCons (gName 1) aNil))) aNil))
    (ρ0 := [.fz (.scr (ns.map .int)), .un]) (ρ := [.fz (.scr (ns.map .int)), .un]) (μ0 := []) (μ := []) (ds := rngD 0 n)
    (fun k acc μ' => acc = (List.range k).map (fun _ => .bl true) ∧ Bows μ' ∧ True) (rng1_ok (by simp [hn1]) (by omega)) (by simp) (by rw [rng_len, sizeLine_eq]; omega) ⟨rfl, fun m hm => by simp at hm, trivial⟩ (fun k d acc μ2 hd h => by
      obtain ⟨rfl, B2, _⟩ := h
      obtain ⟨rfl, hk⟩ := rng_get hd
      obtain ⟨μ3, e3, B3, l3⟩ := bowl_ev B2 ns k (by omega) hn
      obtain ⟨μ4, e4, B4, l4⟩ := right_ev B3 (i := μ2.length) (by omega)
      refine ⟨some (.bl true), [.fz (.scr (ns.map .int)), .fz (.int k)], μ4, by simp [e3, e4], by simp, ?_, B4, trivial⟩
      rw [List.range_succ, List.map_append]
      rfl)
  rw [← lc_law_1_eq] at e
  have a := all_map (fun _ : Nat => true) (List.range (rngD 0 n).length)
  have a2 : ((List.range (rngD 0 n).length).all fun _ => true) = true := by simp
  rw [a2, ← l] at a
  exact ⟨μ', by simp [m_law_eq, e, a]⟩
end Nk83
set_option maxRecDepth 100000
set_option maxHeartbeats 4000000
namespace Nk83
open PySem PySem.Spec L2 NdefX DL
open PyProof.Rows (envOfC)
def top (i : Nat) : Stmt := PySem.Challenge.pw_tielabels_k83_whole_texts_of_marks.main.body.getD i (.Pass ⟨0, 0, 0, 0⟩)
def topM (i j : Nat) : Stmt := (blkS (top i)).getD j (.Pass ⟨0, 0, 0, 0⟩)
def lam_0 : LamT := lamOf "wrong_in_places.<locals>.<lambda>" (atE (top 25) [0] 0 [4]) []
def lam_1 : LamT := lamOf "wrong_in_ties.<locals>.<lambda>" (atE (top 27) [0] 0 [4]) ["places"]
def lam_2 : LamT := lamOf "wrong_in_told.<locals>.<lambda>" (atE (top 41) [0] 0 [3]) []
def lam_3 : LamT := lamOf "wrong_in_all.<locals>.<lambda>" (atE (top 20) [0] 0 [1, 4]) ["is_right"]
def lamTab : List LamT := [lam_0, lam_1, lam_2, lam_3]
structure Top (w : World) (S : Sta) (mg : Str → Option Value) (base : Heap) : Prop where
  isf : IsF S.K cls
  lam : ∀ n L, lamTab[n]? = some L → S.L n = some L
  z_len : mg "len" = none
  z_min : mg "min" = none
  z_max : mg "max" = none
  z_range : mg "range" = none
  z_divmod : mg "divmod" = none
  z_int : mg "int" = none
  fn__law_draw : ∃ fd, FunD S.K "_law_draw" "_law_draw" (defArgs (top 74)) (defBody (top 74)) (defScope (top 74)) [] [] (He.fAd S.K ("_law_draw", none)) fd
  g__law_draw : mg "_law_draw" = some (.ref (He.fAd S.K ("_law_draw", none)))
  fn__law_of : ∃ fd, FunD S.K "_law_of" "_law_of" (defArgs (top 75)) (defBody (top 75)) (defScope (top 75)) [] [] (He.fAd S.K ("_law_of", none)) fd
  g__law_of : mg "_law_of" = some (.ref (He.fAd S.K ("_law_of", none)))
  fn__law_own : ∃ fd, FunD S.K "_law_own" "_law_own" (defArgs (top 77)) (defBody (top 77)) (defScope (top 77)) [] [] (He.fAd S.K ("_law_own", none)) fd
  g__law_own : mg "_law_own" = some (.ref (He.fAd S.K ("_law_own", none)))
  z_sorted : mg "sorted" = none
  z_tuple : mg "tuple" = none
  fn__law_names : ∃ fd, FunD S.K "_law_names" "_law_names" (defArgs (top 78)) (defBody (top 78)) (defScope (top 78)) [] [] (He.fAd S.K ("_law_names", none)) fd
  g__law_names : mg "_law_names" = some (.ref (He.fAd S.K ("_law_names", none)))
  fn__law_web : ∃ fd, FunD S.K "_law_web" "_law_web" (defArgs (top 79)) (defBody (top 79)) (defScope (top 79)) [] [] (He.fAd S.K ("_law_web", none)) fd
  g__law_web : mg "_law_web" = some (.ref (He.fAd S.K ("_law_web", none)))
  z_isinstance : mg "isinstance" = none
  z_str : mg "str" = none
  c_LETTERS : Cst S mg "LETTERS" c_LETTERS
  z_all : mg "all" = none
  fn_is_word : ∃ fd, FunD S.K "is_word" "is_word" (defArgs (top 15)) (defBody (top 15)) (defScope (top 15)) [] [] (He.fAd S.K ("is_word", none)) fd
  g_is_word : mg "is_word" = some (.ref (He.fAd S.K ("is_word", none)))
  c_MOST_LETTERS : Cst S mg "MOST_LETTERS" c_MOST_LETTERS
  c_WORDS : Cst S mg "WORDS" c_WORDS
  fn_is_name : ∃ fd, FunD S.K "is_name" "is_name" (defArgs (top 16)) (defBody (top 16)) (defScope (top 16)) [] [] (He.fAd S.K ("is_name", none)) fd
  g_is_name : mg "is_name" = some (.ref (He.fAd S.K ("is_name", none)))
  fn_are_below : ∃ fd, FunD S.K "are_below" "are_below" (defArgs (top 21)) (defBody (top 21)) (defScope (top 21)) [] [] (He.fAd S.K ("are_below", none)) fd
  g_are_below : mg "are_below" = some (.ref (He.fAd S.K ("are_below", none)))
  z_enumerate : mg "enumerate" = none
  fn_wrong_in : ∃ fd, FunD S.K "wrong_in" "wrong_in" (defArgs (top 19)) (defBody (top 19)) (defScope (top 19)) [] [] (He.fAd S.K ("wrong_in", none)) fd
  g_wrong_in : mg "wrong_in" = some (.ref (He.fAd S.K ("wrong_in", none)))
  c_MOST_PLACES : Cst S mg "MOST_PLACES" c_MOST_PLACES
  fn_wrong_in_places : ∃ fd, FunD S.K "wrong_in_places" "wrong_in_places" (defArgs (top 25)) (defBody (top 25)) (defScope (top 25)) [] [] (He.fAd S.K ("wrong_in_places", none)) fd
  g_wrong_in_places : mg "wrong_in_places" = some (.ref (He.fAd S.K ("wrong_in_places", none)))
  fn_is_tuple_of : ∃ fd, FunD S.K "is_tuple_of" "is_tuple_of" (defArgs (top 17)) (defBody (top 17)) (defScope (top 17)) [] [] (He.fAd S.K ("is_tuple_of", none)) fd
  g_is_tuple_of : mg "is_tuple_of" = some (.ref (He.fAd S.K ("is_tuple_of", none)))
  fn_is_pair : ∃ fd, FunD S.K "is_pair" "is_pair" (defArgs (top 18)) (defBody (top 18)) (defScope (top 18)) [] [] (He.fAd S.K ("is_pair", none)) fd
  g_is_pair : mg "is_pair" = some (.ref (He.fAd S.K ("is_pair", none)))
  fn_is_one_of : ∃ fd, FunD S.K "is_one_of" "is_one_of" (defArgs (top 14)) (defBody (top 14)) (defScope (top 14)) [] [] (He.fAd S.K ("is_one_of", none)) fd
  g_is_one_of : mg "is_one_of" = some (.ref (He.fAd S.K ("is_one_of", none)))
  fn_is_tie : ∃ fd, FunD S.K "is_tie" "is_tie" (defArgs (top 26)) (defBody (top 26)) (defScope (top 26)) [] [] (He.fAd S.K ("is_tie", none)) fd
  g_is_tie : mg "is_tie" = some (.ref (He.fAd S.K ("is_tie", none)))
  c_MOST_TIES : Cst S mg "MOST_TIES" c_MOST_TIES
  fn_wrong_in_ties : ∃ fd, FunD S.K "wrong_in_ties" "wrong_in_ties" (defArgs (top 27)) (defBody (top 27)) (defScope (top 27)) [] [] (He.fAd S.K ("wrong_in_ties", none)) fd
  g_wrong_in_ties : mg "wrong_in_ties" = some (.ref (He.fAd S.K ("wrong_in_ties", none)))
  cf_Web_all_told : CF S.K "Web" "all_told"
  fn_Web___init__ : ∃ fd, FunD S.K "__init__" "Web.__init__" (defArgs (topM 43 0)) (defBody (topM 43 0)) (defScope (topM 43 0)) [] [] (He.fAd S.K ("Web", some "__init__")) fd
  g_Web : mg "Web" = some (.ref (He.ga S.K "Web"))
  mkr_Web : Mk S.K (He.ga S.K "Web") (He.fAd S.K ("Web", some "__init__"))
  fn__law_made : ∃ fd, FunD S.K "_law_made" "_law_made" (defArgs (top 81)) (defBody (top 81)) (defScope (top 81)) [] [] (He.fAd S.K ("_law_made", none)) fd
  g__law_made : mg "_law_made" = some (.ref (He.fAd S.K ("_law_made", none)))
  fn__law_size : ∃ fd, FunD S.K "_law_size" "_law_size" (defArgs (top 80)) (defBody (top 80)) (defScope (top 80)) [] [] (He.fAd S.K ("_law_size", none)) fd
  g__law_size : mg "_law_size" = some (.ref (He.fAd S.K ("_law_size", none)))
  fn__law_text : ∃ fd, FunD S.K "_law_text" "_law_text" (defArgs (top 82)) (defBody (top 82)) (defScope (top 82)) [] [] (He.fAd S.K ("_law_text", none)) fd
  g__law_text : mg "_law_text" = some (.ref (He.fAd S.K ("_law_text", none)))
  fn_words_of : ∃ fd, FunD S.K "words_of" "words_of" (defArgs (top 61)) (defBody (top 61)) (defScope (top 61)) [] [] (He.fAd S.K ("words_of", none)) fd
  g_words_of : mg "words_of" = some (.ref (He.fAd S.K ("words_of", none)))
  c_RULE : Cst S mg "RULE" c_RULE
  c_RULES : Cst S mg "RULES" c_RULES
  fn_is_rule_row : ∃ fd, FunD S.K "is_rule_row" "is_rule_row" (defArgs (top 62)) (defBody (top 62)) (defScope (top 62)) [] [] (He.fAd S.K ("is_rule_row", none)) fd
  g_is_rule_row : mg "is_rule_row" = some (.ref (He.fAd S.K ("is_rule_row", none)))
  c_PLACE : Cst S mg "PLACE" c_PLACE
  kd_NAMES : KDc S w mg "NAMES" d_NAMES
  c_LIKE : Cst S mg "LIKE" c_LIKE
  c_TIE : Cst S mg "TIE" c_TIE
  c_ONES : Cst S mg "ONES" c_ONES
  c_UNLIKE : Cst S mg "UNLIKE" c_UNLIKE
  fn_marked_words : ∃ fd, FunD S.K "marked_words" "marked_words" (defArgs (top 60)) (defBody (top 60)) (defScope (top 60)) [] [] (He.fAd S.K ("marked_words", none)) fd
  g_marked_words : mg "marked_words" = some (.ref (He.fAd S.K ("marked_words", none)))
  c_OPEN : Cst S mg "OPEN" c_OPEN
  c_MOST_FIGURES : Cst S mg "MOST_FIGURES" c_MOST_FIGURES
  c_FIGURES : Cst S mg "FIGURES" c_FIGURES
  fn_is_figures : ∃ fd, FunD S.K "is_figures" "is_figures" (defArgs (top 59)) (defBody (top 59)) (defScope (top 59)) [] [] (He.fAd S.K ("is_figures", none)) fd
  g_is_figures : mg "is_figures" = some (.ref (He.fAd S.K ("is_figures", none)))
  fn_is_row : ∃ fd, FunD S.K "is_row" "is_row" (defArgs (top 63)) (defBody (top 63)) (defScope (top 63)) [] [] (He.fAd S.K ("is_row", none)) fd
  g_is_row : mg "is_row" = some (.ref (He.fAd S.K ("is_row", none)))
  ct_ORDER : CstT S mg "ORDER" t_ORDER
  fn_wrong_in_lines : ∃ fd, FunD S.K "wrong_in_lines" "wrong_in_lines" (defArgs (top 64)) (defBody (top 64)) (defScope (top 64)) [] [] (He.fAd S.K ("wrong_in_lines", none)) fd
  g_wrong_in_lines : mg "wrong_in_lines" = some (.ref (He.fAd S.K ("wrong_in_lines", none)))
  fn_mark_in : ∃ fd, FunD S.K "mark_in" "mark_in" (defArgs (top 65)) (defBody (top 65)) (defScope (top 65)) [] [] (He.fAd S.K ("mark_in", none)) fd
  g_mark_in : mg "mark_in" = some (.ref (He.fAd S.K ("mark_in", none)))
  fn_told_by : ∃ fd, FunD S.K "told_by" "told_by" (defArgs (top 66)) (defBody (top 66)) (defScope (top 66)) [] [] (He.fAd S.K ("told_by", none)) fd
  g_told_by : mg "told_by" = some (.ref (He.fAd S.K ("told_by", none)))
  fn_check_web : ∃ fd, FunD S.K "check_web" "check_web" (defArgs (top 44)) (defBody (top 44)) (defScope (top 44)) [] [] (He.fAd S.K ("check_web", none)) fd
  g_check_web : mg "check_web" = some (.ref (He.fAd S.K ("check_web", none)))
  c_MOST_LIKE : Cst S mg "MOST_LIKE" c_MOST_LIKE
  c_MOST_UNLIKE : Cst S mg "MOST_UNLIKE" c_MOST_UNLIKE
  pp_Web_places : ∃ p g fd, PropOf S.K (He.ga S.K "Web") "places" p g ∧ FunD S.K "places" "Web.places" (defArgs (topM 43 1)) (defBody (topM 43 1)) (defScope (topM 43 1)) [] [] g fd
  cls_Web : L2.Cls S.K (He.ga S.K "Web")
  pp_Web_ties : ∃ p g fd, PropOf S.K (He.ga S.K "Web") "ties" p g ∧ FunD S.K "ties" "Web.ties" (defArgs (topM 43 2)) (defBody (topM 43 2)) (defScope (topM 43 2)) [] [] g fd
  fn_size_by : ∃ fd, FunD S.K "size_by" "size_by" (defArgs (top 39)) (defBody (top 39)) (defScope (top 39)) [] [] (He.fAd S.K ("size_by", none)) fd
  g_size_by : mg "size_by" = some (.ref (He.fAd S.K ("size_by", none)))
  fn_check_rule : ∃ fd, FunD S.K "check_rule" "check_rule" (defArgs (top 48)) (defBody (top 48)) (defScope (top 48)) [] [] (He.fAd S.K ("check_rule", none)) fd
  g_check_rule : mg "check_rule" = some (.ref (He.fAd S.K ("check_rule", none)))
  fn_read_marks : ∃ fd, FunD S.K "read_marks" "read_marks" (defArgs (top 71)) (defBody (top 71)) (defScope (top 71)) [] [] (He.fAd S.K ("read_marks", none)) fd
  g_read_marks : mg "read_marks" = some (.ref (He.fAd S.K ("read_marks", none)))
  z_bool : mg "bool" = none
  fn__law_same : ∃ fd, FunD S.K "_law_same" "_law_same" (defArgs (top 76)) (defBody (top 76)) (defScope (top 76)) [] [] (He.fAd S.K ("_law_same", none)) fd
  g__law_same : mg "_law_same" = some (.ref (He.fAd S.K ("_law_same", none)))
  fn_is_whole : ∃ fd, FunD S.K "is_whole" "is_whole" (defArgs (top 13)) (defBody (top 13)) (defScope (top 13)) [] [] (He.fAd S.K ("is_whole", none)) fd
  g_is_whole : mg "is_whole" = some (.ref (He.fAd S.K ("is_whole", none)))
  fn_is_number : ∃ fd, FunD S.K "is_number" "is_number" (defArgs (top 40)) (defBody (top 40)) (defScope (top 40)) [] [] (He.fAd S.K ("is_number", none)) fd
  g_is_number : mg "is_number" = some (.ref (He.fAd S.K ("is_number", none)))
  fn_wrong_in_all : ∃ fd, FunD S.K "wrong_in_all" "wrong_in_all" (defArgs (top 20)) (defBody (top 20)) (defScope (top 20)) [] [] (He.fAd S.K ("wrong_in_all", none)) fd
  g_wrong_in_all : mg "wrong_in_all" = some (.ref (He.fAd S.K ("wrong_in_all", none)))
  fn_wrong_in_told : ∃ fd, FunD S.K "wrong_in_told" "wrong_in_told" (defArgs (top 41)) (defBody (top 41)) (defScope (top 41)) [] [] (He.fAd S.K ("wrong_in_told", none)) fd
  g_wrong_in_told : mg "wrong_in_told" = some (.ref (He.fAd S.K ("wrong_in_told", none)))
  fn_check_told : ∃ fd, FunD S.K "check_told" "check_told" (defArgs (top 49)) (defBody (top 49)) (defScope (top 49)) [] [] (He.fAd S.K ("check_told", none)) fd
  g_check_told : mg "check_told" = some (.ref (He.fAd S.K ("check_told", none)))
  z_dict : mg "dict" = none
  z_zip : mg "zip" = none
  fn_mark_word : ∃ fd, FunD S.K "mark_word" "mark_word" (defArgs (top 67)) (defBody (top 67)) (defScope (top 67)) [] [] (He.fAd S.K ("mark_word", none)) fd
  g_mark_word : mg "mark_word" = some (.ref (He.fAd S.K ("mark_word", none)))
  fn_rows_by : ∃ fd, FunD S.K "rows_by" "rows_by" (defArgs (top 68)) (defBody (top 68)) (defScope (top 68)) [] [] (He.fAd S.K ("rows_by", none)) fd
  g_rows_by : mg "rows_by" = some (.ref (He.fAd S.K ("rows_by", none)))
  fn_mark_rows : ∃ fd, FunD S.K "mark_rows" "mark_rows" (defArgs (top 70)) (defBody (top 70)) (defScope (top 70)) [] [] (He.fAd S.K ("mark_rows", none)) fd
  g_mark_rows : mg "mark_rows" = some (.ref (He.fAd S.K ("mark_rows", none)))
  pp_Web_parts : ∃ p g fd, PropOf S.K (He.ga S.K "Web") "parts" p g ∧ FunD S.K "parts" "Web.parts" (defArgs (topM 43 3)) (defBody (topM 43 3)) (defScope (topM 43 3)) [] [] g fd
  fn_Web___eq__ : ∃ fd, FunD S.K "__eq__" "Web.__eq__" (defArgs (topM 43 4)) (defBody (topM 43 4)) (defScope (topM 43 4)) [] [] (He.fAd S.K ("Web", some "__eq__")) fd
  meth_Web___eq__ : L2.Meth S.K (He.ga S.K "Web") "__eq__" (He.fAd S.K ("Web", some "__eq__"))
  fn__law_right : ∃ fd, FunD S.K "_law_right" "_law_right" (defArgs (top 83)) (defBody (top 83)) (defScope (top 83)) [] [] (He.fAd S.K ("_law_right", none)) fd
  g__law_right : mg "_law_right" = some (.ref (He.fAd S.K ("_law_right", none)))
  z_abs : mg "abs" = none
  fn__law_bowl : ∃ fd, FunD S.K "_law_bowl" "_law_bowl" (defArgs (top 73)) (defBody (top 73)) (defScope (top 73)) [] [] (He.fAd S.K ("_law_bowl", none)) fd
  g__law_bowl : mg "_law_bowl" = some (.ref (He.fAd S.K ("_law_bowl", none)))
  fn_law : ∃ fd, FunD S.K "law" "law" (defArgs (top 84)) (defBody (top 84)) (defScope (top 84)) [] [] (He.fAd S.K ("law", none)) fd
  g_law : mg "law" = some (.ref (He.fAd S.K ("law", none)))
  mk_wrong_in_places : LamX.TabB base mg (He.codeOf S.K ("wrong_in_places", none)) (He.cT S.K ("wrong_in_places", none)).2 ∧ ((He.cT S.K ("wrong_in_places", none)).2, ("wrong_in_places.<locals>.<lambda>" : Str)) ∈ S.T ∧ ∀ p ∈ S.T, p.1 = (He.cT S.K ("wrong_in_places", none)).2 → p.2 = ("wrong_in_places.<locals>.<lambda>" : Str)
  mk_wrong_in_ties : LamX.TabB base mg (He.codeOf S.K ("wrong_in_ties", none)) (He.cT S.K ("wrong_in_ties", none)).2 ∧ ((He.cT S.K ("wrong_in_ties", none)).2, ("wrong_in_ties.<locals>.<lambda>" : Str)) ∈ S.T ∧ ∀ p ∈ S.T, p.1 = (He.cT S.K ("wrong_in_ties", none)).2 → p.2 = ("wrong_in_ties.<locals>.<lambda>" : Str)
  mk_wrong_in_told : LamX.TabB base mg (He.codeOf S.K ("wrong_in_told", none)) (He.cT S.K ("wrong_in_told", none)).2 ∧ ((He.cT S.K ("wrong_in_told", none)).2, ("wrong_in_told.<locals>.<lambda>" : Str)) ∈ S.T ∧ ∀ p ∈ S.T, p.1 = (He.cT S.K ("wrong_in_told", none)).2 → p.2 = ("wrong_in_told.<locals>.<lambda>" : Str)
  mk_wrong_in_all : LamX.TabB base mg (He.codeOf S.K ("wrong_in_all", none)) (He.cT S.K ("wrong_in_all", none)).2 ∧ ((He.cT S.K ("wrong_in_all", none)).2, ("wrong_in_all.<locals>.<lambda>" : Str)) ∈ S.T ∧ ∀ p ∈ S.T, p.1 = (He.cT S.K ("wrong_in_all", none)).2 → p.2 = ("wrong_in_all.<locals>.<lambda>" : Str)
variable {P : Program} {w : World} {S : Sta} {mg : Str → Option Value} {base : Heap}
theorem fnok__law_draw (T : Top w S mg base) {a : Addr} {fd : FuncData} (F : FunD S.K "_law_draw" "_law_draw" (defArgs (top 74)) (defBody (top 74)) (defScope (top 74)) [] [] a fd) : FnOk P w S.K mg base (L2.CX P w) 1 a fd ["bowl", "many"] (spF S 2 m__law_draw) := by
  rw [m__law_draw_eq]
  refine def_ok (N := ["bowl", "many", "figure", "turn"]) (ps := ["bowl", "many"]) F ⟨rfl, rfl, rfl, by decide +kernel, rfl, by decide +kernel, by decide +kernel⟩ fun cdv A outer s H E hr tk => ?_
  have nd : (["bowl", "many", "figure", "turn"] : List Str).Nodup := by decide +kernel
  exact (s_cons (s_if (t_cmp op_gt k_gt (e_ix rfl (e_name (i := 0) rfl (.inl rfl)) e_int (fun _ _ => rfl)) e_int (nomark _)) (s_cons (s_asg (e_callB2 call_divmod k_divmod rfl T.z_divmod (by decide +kernel) (e_ix rfl (e_name (i := 0) rfl (.inl rfl)) e_int (fun _ _ => rfl)) (e_name (i := 1) rfl (.inl rfl))) (g_tup rfl (gs_cons (g_sub (e_name (i := 0) rfl (.inl rfl)) e_int) (gs_cons (g_name (i := 2) nd rfl (.inl rfl)) gs_nil)) rfl))
    (s_one (s_ret (e_name (i := 2) rfl (.inl rfl))))) s_nil)
    (s_cons (s_asg (e_adds rfl (e_ix rfl (e_name (i := 0) rfl (.inl rfl)) e_int (fun _ _ => rfl)) e_int) (g_sub (e_name (i := 0) rfl (.inl rfl)) e_int))
    (s_cons (s_set (i := 3) nd rfl (.inl rfl) (e_mod (e_callT call_ints k_intOf rfl T.z_int (by decide +kernel) (e_adds rfl (e_muls rfl (e_ix rfl (e_name (i := 0) rfl (.inl rfl)) e_int (fun _ _ => rfl)) e_int) (e_muls rfl e_int (e_ix rfl (e_name (i := 0) rfl (.inl rfl)) e_int (fun _ _ => rfl))))) e_int))
    (s_cons (s_asg (e_mod (e_callT call_ints k_intOf rfl T.z_int (by decide +kernel) (e_adds rfl (e_muls rfl (e_name (i := 3) rfl (.inl rfl)) (e_adds rfl (e_mod (e_callT call_ints k_intOf rfl T.z_int (by decide +kernel) (e_name (i := 3) rfl (.inl rfl))) e_int) e_int)) (e_muls rfl e_int (e_ix rfl (e_name (i := 0) rfl (.inl rfl)) e_int (fun _ _ => rfl))))) e_int) (g_sub (e_name (i := 0) rfl (.inl rfl)) e_int))
    (s_one (s_ret (e_mod (e_callT call_ints k_intOf rfl T.z_int (by decide +kernel) (e_div (e_ix rfl (e_name (i := 0) rfl (.inl rfl)) e_int (fun _ _ => rfl)) e_int)) (e_name (i := 1) rfl (.inl rfl)))))))))
theorem ok__law_draw (T : Top w S mg base) : Cal P w S mg base 1 "_law_draw" 2 m__law_draw := by
  obtain ⟨fd, F⟩ := T.fn__law_draw
  exact cal_of F (fnok__law_draw T F) T.g__law_draw (F.bindsN fun _ _ _ _ _ _ us hl => match us, hl with | [_, _], _ => rfl)
theorem fnok__law_of (T : Top w S mg base) {a : Addr} {fd : FuncData} (F : FunD S.K "_law_of" "_law_of" (defArgs (top 75)) (defBody (top 75)) (defScope (top 75)) [] [] a fd) : FnOk P w S.K mg base (L2.CX P w) 2 a fd ["bowl", "some"] (spF S 2 m__law_of) := by
  rw [m__law_of_eq]
  refine def_ok (N := ["bowl", "some"]) (ps := ["bowl", "some"]) F ⟨rfl, rfl, rfl, by decide +kernel, rfl, by decide +kernel, by decide +kernel⟩ fun cdv A outer s H E hr tk => ?_
  have nd : (["bowl", "some"] : List Str).Nodup := by decide +kernel
  exact (s_one (s_ret (e_ixA (u65 hr) rfl (e_name (i := 1) rfl (.inl rfl)) (e_call (ok__law_draw T) rfl hr (by decide) tk (fun _ _ _ _ _ h => h) rfl (a_cons (e_name (i := 0) rfl (.inl rfl)) (a_cons (e_callB call_len (k_len rfl) rfl T.z_len boot_len (e_name (i := 1) rfl (.inl rfl))) a_nil))) (fun _ _ => rfl))))
theorem ok__law_of (T : Top w S mg base) : Cal P w S mg base 2 "_law_of" 2 m__law_of := by
  obtain ⟨fd, F⟩ := T.fn__law_of
  exact cal_of F (fnok__law_of T F) T.g__law_of (F.bindsN fun _ _ _ _ _ _ us hl => match us, hl with | [_, _], _ => rfl)
theorem fnok__law_own (T : Top w S mg base) {a : Addr} {fd : FuncData} (F : FunD S.K "_law_own" "_law_own" (defArgs (top 77)) (defBody (top 77)) (defScope (top 77)) [] [] a fd) : FnOk P w S.K mg base (L2.CX P w) 1 a fd [] (spF S 0 m__law_own) := by
  rw [m__law_own_eq]
  refine def_ok (N := []) (ps := []) F ⟨rfl, rfl, rfl, by decide +kernel, rfl, by decide +kernel, by decide +kernel⟩ fun cdv A outer s H E hr tk => ?_
  have nd : ([] : List Str).Nodup := by decide +kernel
  exact (s_one (s_ret (e_meth rfl PySem.F.plainAttrs_str PySem.F.slot_str_split PySem.F.type_str_split mt_split k_split e_str (a_cons e_str a_nil))))
theorem ok__law_own (T : Top w S mg base) : Cal P w S mg base 1 "_law_own" 0 m__law_own := by
  obtain ⟨fd, F⟩ := T.fn__law_own
  exact cal_of F (fnok__law_own T F) T.g__law_own (F.bindsN fun _ _ _ _ _ _ us hl => match us, hl with | [], _ => rfl)
theorem fnok__law_names (T : Top w S mg base) {a : Addr} {fd : FuncData} (F : FunD S.K "_law_names" "_law_names" (defArgs (top 78)) (defBody (top 78)) (defScope (top 78)) [] [] a fd) : FnOk P w S.K mg base (L2.CX P w) 3 a fd ["bowl", "many"] (spF S 2 m__law_names) := by
  rw [m__law_names_eq, fo__law_names_6_eq, fb__law_names_5_eq, lc__law_names_4_eq, lc__law_names_3_eq, fo__law_names_2_eq, fb__law_names_1_eq]
  refine def_ok (N := ["bowl", "many", "words", "more", "barred", "found", "turn", "name", "k", "some", "each", "last"]) (ps := ["bowl", "many"]) F ⟨rfl, rfl, rfl, by decide +kernel, rfl, by decide +kernel, by decide +kernel⟩ fun cdv A outer s H E hr tk => ?_
  have nd : (["bowl", "many", "words", "more", "barred", "found", "turn", "name", "k", "some", "each", "last"] : List Str).Nodup := by decide +kernel
  exact (s_cons (s_set (i := 2) nd rfl (.inl rfl) e_str)
    (s_cons (s_set (i := 3) nd rfl (.inl rfl) e_str)
    (s_cons (s_parT rfl rfl (ns_cons (i := 4) nd rfl (.inr rfl) (.inl rfl) (ns_cons (i := 5) nd rfl (.inr rfl) (.inl rfl) ns_nil)) (v_cons (e_adds rfl (e_meth rfl PySem.F.plainAttrs_str PySem.F.slot_str_split PySem.F.type_str_split mt_split k_split (e_name (i := 2) rfl (.inl rfl)) (a_cons e_str a_nil)) (e_meth rfl PySem.F.plainAttrs_str PySem.F.slot_str_split PySem.F.type_str_split mt_split k_split (e_name (i := 3) rfl (.inl rfl)) (a_cons e_str a_nil))) (v_cons (e_lst a_nil) v_nil)) rfl rfl (by kernel_rfl))
    (s_cons (s_for (passes_of rfl) rfl (i_rng1 rfl T.z_range (a_cons (e_name (i := 1) rfl (.inl rfl)) a_nil)) (g_name (i := 6) nd rfl (.inl rfl)) (s_cons (s_set (i := 7) nd rfl (.inr rfl) e_str)
    (s_cons (s_for (passes_of rfl) rfl (i_rng1 rfl T.z_range (a_cons (e_call (ok__law_of T) rfl hr (by decide) tk (fun _ _ _ _ _ h => h) rfl (a_cons (e_name (i := 0) rfl (.inl rfl)) (a_cons (e_tup (a_cons e_int (a_cons e_int (a_cons e_int (a_cons e_int (a_cons e_int (a_cons e_int a_nil))))))) a_nil))) a_nil)) (g_name (i := 8) nd rfl (.inl rfl)) (s_one (s_set (i := 7) nd rfl (.inr rfl) (e_adds rfl (e_name (i := 7) rfl (.inr (.inl rfl))) (e_ixA (u65 hr) rfl e_str (e_call (ok__law_draw T) rfl hr (by decide) tk (fun _ _ _ _ _ h => h) rfl (a_cons (e_name (i := 0) rfl (.inl rfl)) (a_cons e_int a_nil))) (fun _ _ => rfl))))))
    (s_cons (s_setLc (i := 9) (own := [("each", 10)]) rfl nd rfl rfl (sw_true rfl rfl rfl (by kernel_rfl)) (i_any rfl (e_adds rfl (e_lst (a_cons (e_name (i := 7) rfl (.inr (.inl rfl))) a_nil)) (e_lc (own := [("last", 11)]) rfl nd (i_any rfl e_str) (by kernel_rfl) (fun _ _ _ _ _ => (g_name (i := 11) nd rfl (by first | exact .inl rfl | exact .inr rfl))) (fun _ _ _ _ _ => c_nil) (fun _ _ _ _ _ => (e_adds rfl (e_sl rfl (e_name (i := 7) rfl (by first | exact .inl rfl | exact .inr (.inr rfl) | exact .inr (.inl rfl))) o_none (o_some e_int)) (e_name (i := 11) rfl (by first | exact .inl rfl | exact .inr (.inr rfl) | exact .inr (.inl rfl)))))))) (by kernel_rfl) (fun _ _ _ _ _ => (g_name (i := 10) nd rfl (by first | exact .inl rfl | exact .inr rfl))) (fun _ _ _ _ _ => (c_one (t_nin (u65 hr) rfl (e_name (i := 10) rfl (by first | exact .inl rfl | exact .inr (.inr rfl) | exact .inr (.inl rfl))) (e_adds rfl (e_adds rfl (e_name (i := 4) rfl (by first | exact .inl rfl | exact .inr (.inr rfl) | exact .inr (.inl rfl))) (e_name (i := 5) rfl (by first | exact .inl rfl | exact .inr (.inr rfl) | exact .inr (.inl rfl)))) (e_call0 (ok__law_own T) rfl hr (by decide) LamX.takes0 (fun _ _ _ _ _ h => h) rfl)) rfl))) (fun _ _ _ _ _ => (e_name (i := 10) rfl (by first | exact .inl rfl | exact .inr (.inr rfl) | exact .inr (.inl rfl)))))
    (s_one (s_expr (e_meth rfl PySem.F.plainAttrs_list PySem.F.slot_list_append PySem.F.type_list_append mt_append k_append (e_name (i := 5) rfl (.inr (.inl rfl))) (a_cons (e_ix rfl (e_name (i := 9) rfl (.inl rfl)) e_int (fun _ _ => rfl)) a_nil))))))))
    (s_one (s_ret (e_callT call_tuple_of (k_tuple rfl) rfl T.z_tuple (by decide +kernel) (e_callB call_sortD (k_sorted rfl) rfl T.z_sorted (by decide +kernel) (e_name (i := 5) rfl (.inr (.inl rfl)))))))))))
theorem ok__law_names (T : Top w S mg base) : Cal P w S mg base 3 "_law_names" 2 m__law_names := by
  obtain ⟨fd, F⟩ := T.fn__law_names
  exact cal_of F (fnok__law_names T F) T.g__law_names (F.bindsN fun _ _ _ _ _ _ us hl => match us, hl with | [_, _], _ => rfl)
theorem fnok__law_web (T : Top w S mg base) {a : Addr} {fd : FuncData} (F : FunD S.K "_law_web" "_law_web" (defArgs (top 79)) (defBody (top 79)) (defScope (top 79)) [] [] a fd) : FnOk P w S.K mg base (L2.CX P w) 4 a fd ["bowl", "most"] (spF S 2 m__law_web) := by
  rw [m__law_web_eq, fo__law_web_3_eq, fb__law_web_2_eq, lc__law_web_1_eq]
  refine def_ok (N := ["bowl", "most", "names", "often", "ties", "j", "i"]) (ps := ["bowl", "most"]) F ⟨rfl, rfl, rfl, by decide +kernel, rfl, by decide +kernel, by decide +kernel⟩ fun cdv A outer s H E hr tk => ?_
  have nd : (["bowl", "most", "names", "often", "ties", "j", "i"] : List Str).Nodup := by decide +kernel
  exact (s_cons (s_parT rfl rfl (ns_cons (i := 2) nd rfl (.inr rfl) (.inl rfl) (ns_cons (i := 3) nd rfl (.inr rfl) (.inl rfl) (ns_cons (i := 4) nd rfl (.inl rfl) (.inl rfl) ns_nil))) (v_cons (e_call (ok__law_names T) rfl hr (by decide) tk (fun _ _ _ _ _ h => h) rfl (a_cons (e_name (i := 0) rfl (.inr (.inl rfl))) (a_cons (e_adds rfl e_int (e_call (ok__law_draw T) rfl hr (by decide) tk (fun _ _ _ _ _ h => h) rfl (a_cons (e_name (i := 0) rfl (.inr (.inl rfl))) (a_cons (e_name (i := 1) rfl (.inl rfl)) a_nil)))) a_nil))) (v_cons (e_call (ok__law_of T) rfl hr (by decide) tk (fun _ _ _ _ _ h => h) rfl (a_cons (e_name (i := 0) rfl (.inr (.inl rfl))) (a_cons (e_tup (a_cons e_int (a_cons e_int (a_cons e_int a_nil)))) a_nil))) (v_cons (e_lst a_nil) v_nil))) rfl rfl (by kernel_rfl))
    (s_cons (s_for (passes_of rfl) rfl (i_rng1 rfl T.z_range (a_cons (e_callB call_len (k_len rfl) rfl T.z_len boot_len (e_name (i := 2) rfl (.inr (.inl rfl)))) a_nil)) (g_name (i := 5) nd rfl (.inr rfl)) (s_one (s_set (i := 4) nd rfl (.inl rfl) (e_adds rfl (e_name (i := 4) rfl (.inl rfl)) (e_lc (own := [("i", 6)]) rfl nd (i_rng1 rfl T.z_range (a_cons (e_name (i := 5) rfl (.inr (.inl rfl))) a_nil)) (by kernel_rfl) (fun _ _ _ _ _ => (g_name (i := 6) nd rfl (by first | exact .inl rfl | exact .inr rfl))) (fun _ _ _ _ _ => (c_one (t_lts hr.units0 rfl (e_call (ok__law_draw T) rfl hr (by decide) LamX.takes0 (fun _ _ _ _ _ h => h) rfl (a_cons (e_name (i := 0) rfl (by first | exact .inl rfl | exact .inr (.inr rfl) | exact .inr (.inl rfl))) (a_cons e_int a_nil))) (e_name (i := 3) rfl (by first | exact .inl rfl | exact .inr (.inr rfl) | exact .inr (.inl rfl))) (nomark _)))) (fun _ _ _ _ _ => (e_tup (a_cons (e_ixA (u65 hr) rfl (e_name (i := 2) rfl (by first | exact .inl rfl | exact .inr (.inr rfl) | exact .inr (.inl rfl))) (e_name (i := 6) rfl (by first | exact .inl rfl | exact .inr (.inr rfl) | exact .inr (.inl rfl))) (fun _ _ => rfl)) (a_cons (e_ixA (u65 hr) rfl (e_name (i := 2) rfl (by first | exact .inl rfl | exact .inr (.inr rfl) | exact .inr (.inl rfl))) (e_name (i := 5) rfl (by first | exact .inl rfl | exact .inr (.inr rfl) | exact .inr (.inl rfl))) (fun _ _ => rfl)) a_nil)))))))))
    (s_one (s_ret (e_tup (a_cons (e_name (i := 2) rfl (.inr (.inl rfl))) (a_cons (e_callT call_tuple_of (k_tuple rfl) rfl T.z_tuple (by decide +kernel) (e_callB call_sortD (k_sorted rfl) rfl T.z_sorted (by decide +kernel) (e_sl rfl (e_name (i := 4) rfl (.inl rfl)) o_none (o_some e_int)))) a_nil)))))))
theorem ok__law_web (T : Top w S mg base) : Cal P w S mg base 4 "_law_web" 2 m__law_web := by
  obtain ⟨fd, F⟩ := T.fn__law_web
  exact cal_of F (fnok__law_web T F) T.g__law_web (F.bindsN fun _ _ _ _ _ _ us hl => match us, hl with | [_, _], _ => rfl)
theorem fnok_is_word (T : Top w S mg base) {a : Addr} {fd : FuncData} (F : FunD S.K "is_word" "is_word" (defArgs (top 15)) (defBody (top 15)) (defScope (top 15)) [] [] a fd) : FnOk P w S.K mg base (L2.CX P w) 1 a fd ["value"] (spF S 1 m_is_word) := by
  rw [m_is_word_eq, lc_is_word_1_eq]
  refine def_ok (N := ["value", "sign"]) (ps := ["value"]) F ⟨rfl, rfl, rfl, by decide +kernel, rfl, by decide +kernel, by decide +kernel⟩ fun cdv A outer s H E hr tk => ?_
  have nd : (["value", "sign"] : List Str).Nodup := by decide +kernel
  exact (s_one (s_ret (e_and (e_isiT T.isf rfl rfl T.z_isinstance rfl T.z_str (by decide +kernel) (e_name (i := 0) rfl (.inl rfl))) (e_and (e_cmp (op_neD hr.units) k_ne (e_name (i := 0) rfl (.inl rfl)) e_str (nomark _)) (e_one (e_callB (cr_all rfl) (k_all rfl) rfl T.z_all PyProof.Rows.boot_all (e_lc (own := [("sign", 1)]) rfl nd (i_any rfl (e_name (i := 0) rfl (.inl rfl))) (by kernel_rfl) (fun _ _ _ _ _ => (g_name (i := 1) nd rfl (by first | exact .inl rfl | exact .inr rfl))) (fun _ _ _ _ _ => c_nil) (fun _ _ _ _ _ => (e_in (u65 hr) rfl (e_name (i := 1) rfl (by first | exact .inl rfl | exact .inr (.inr rfl) | exact .inr (.inl rfl))) (e_glob rfl T.c_LETTERS) rfl)))))))))
theorem ok_is_word (T : Top w S mg base) : Cal P w S mg base 1 "is_word" 1 m_is_word := by
  obtain ⟨fd, F⟩ := T.fn_is_word
  exact cal_of F (fnok_is_word T F) T.g_is_word (F.bindsN fun _ _ _ _ _ _ us hl => match us, hl with | [_], _ => rfl)
theorem fnok_is_name (T : Top w S mg base) {a : Addr} {fd : FuncData} (F : FunD S.K "is_name" "is_name" (defArgs (top 16)) (defBody (top 16)) (defScope (top 16)) [] [] a fd) : FnOk P w S.K mg base (L2.CX P w) 2 a fd ["value"] (spF S 1 m_is_name) := by
  rw [m_is_name_eq]
  refine def_ok (N := ["value"]) (ps := ["value"]) F ⟨rfl, rfl, rfl, by decide +kernel, rfl, by decide +kernel, by decide +kernel⟩ fun cdv A outer s H E hr tk => ?_
  have nd : (["value"] : List Str).Nodup := by decide +kernel
  exact (s_one (s_ret (e_and (e_call (ok_is_word T) rfl hr (by decide) tk (fun _ _ _ _ _ h => h) rfl (a_cons (e_name (i := 0) rfl (.inl rfl)) a_nil)) (e_and (e_cmp op_le k_le (e_callB call_len (k_len rfl) rfl T.z_len boot_len (e_name (i := 0) rfl (.inl rfl))) (e_glob rfl T.c_MOST_LETTERS) (nomark _)) (e_one (e_nin (u65 hr) rfl (e_name (i := 0) rfl (.inl rfl)) (e_glob rfl T.c_WORDS) rfl))))))
theorem ok_is_name (T : Top w S mg base) : Cal P w S mg base 2 "is_name" 1 m_is_name := by
  obtain ⟨fd, F⟩ := T.fn_is_name
  exact cal_of F (fnok_is_name T F) T.g_is_name (F.bindsN fun _ _ _ _ _ _ us hl => match us, hl with | [_], _ => rfl)
theorem fnok_are_below (T : Top w S mg base) {a : Addr} {fd : FuncData} (F : FunD S.K "are_below" "are_below" (defArgs (top 21)) (defBody (top 21)) (defScope (top 21)) [] [] a fd) : FnOk P w S.K mg base (L2.CX P w) 1 a fd ["ahead", "value"] (spF S 2 m_are_below) := by
  rw [m_are_below_eq]
  refine def_ok (N := ["ahead", "value"]) (ps := ["ahead", "value"]) F ⟨rfl, rfl, rfl, by decide +kernel, rfl, by decide +kernel, by decide +kernel⟩ fun cdv A outer s H E hr tk => ?_
  have nd : (["ahead", "value"] : List Str).Nodup := by decide +kernel
  exact (s_one (s_ret (e_or (e_cmp (op_eqD hr.units) k_eq (e_name (i := 0) rfl (.inl rfl)) (e_tup a_nil) (nomark _)) (e_one (e_lts hr.units0 rfl (e_ix rfl (e_name (i := 0) rfl (.inl rfl)) (e_neg e_int) (fun _ _ => rfl)) (e_name (i := 1) rfl (.inl rfl)) (nomark _))))))
theorem ok_are_below (T : Top w S mg base) : Cal P w S mg base 1 "are_below" 2 m_are_below := by
  obtain ⟨fd, F⟩ := T.fn_are_below
  exact cal_of F (fnok_are_below T F) T.g_are_below (F.bindsN fun _ _ _ _ _ _ us hl => match us, hl with | [_, _], _ => rfl)
theorem dok_l0 (T : Top w S mg base) : DispOk P w S mg base 3 2 dp_l0 := fun d m v H0 mm e h => by
  unfold dp_l0 at e
  split at e
  · cases e
    exact lam_callr (N := ["ahead", "each"]) (ps := ["ahead", "each"]) (L := lam_0) (T.lam 0 _ rfl) (nscope_by (by decide +kernel)) (fun _ _ _ _ us hl => match us, hl with | [_, _], _ => rfl) (fun f cl c A outer s H E hr tk => by
      have nd : (["ahead", "each"] : List Str).Nodup := by decide +kernel
      rw [lg_l0_eq]
      exact (e_and (e_call (ok_is_name T) rfl hr (by decide) tk (fun _ _ _ _ _ h => h) rfl (a_cons (e_name (i := 1) rfl (.inl rfl)) a_nil)) (e_one (e_call (ok_are_below T) rfl hr (by decide) tk (fun _ _ _ _ _ h => h) rfl (a_cons (e_name (i := 0) rfl (.inl rfl)) (a_cons (e_name (i := 1) rfl (.inl rfl)) a_nil)))))) h
  · cases e
theorem fnok_wrong_in_l0 (T : Top w S mg base) {a : Addr} {fd : FuncData} (F : FunD S.K "wrong_in" "wrong_in" (defArgs (top 19)) (defBody (top 19)) (defScope (top 19)) [] [] a fd) : FnOk P w S.K mg base (L2.CX P w) 4 a fd ["value", "least", "most", "is_right"] (spF S 4 m_wrong_in_l0) := by
  rw [m_wrong_in_l0_eq, fo_wrong_in_l0_2_eq, fb_wrong_in_l0_1_eq]
  refine def_ok (N := ["value", "least", "most", "is_right", "index", "each"]) (ps := ["value", "least", "most", "is_right"]) F ⟨rfl, rfl, rfl, by decide +kernel, rfl, by decide +kernel, by decide +kernel⟩ fun cdv A outer s H E hr tk => ?_
  have nd : (["value", "least", "most", "is_right", "index", "each"] : List Str).Nodup := by decide +kernel
  exact (s_cons (s_if (PW.pt (w_or (t_not (t_val (e_isiT T.isf rfl rfl T.z_isinstance rfl T.z_tuple (by decide +kernel) (e_name (i := 0) rfl (.inl rfl))))) (w_one_or (t_lts hr.units0 rfl (e_callB call_len (k_len rfl) rfl T.z_len boot_len (e_name (i := 0) rfl (.inl rfl))) (e_name (i := 1) rfl (.inl rfl)) (nomark _))))) (s_one (s_ret (e_lst (a_cons e_non a_nil)))) s_nil)
    (s_cons (s_for (passes_of rfl) rfl (i_enm rfl rfl T.z_enumerate (a_cons (e_name (i := 0) rfl (.inl rfl)) a_nil)) (g_tup rfl (gs_cons (g_name (i := 4) nd rfl (.inl rfl)) (gs_cons (g_name (i := 5) nd rfl (.inl rfl)) gs_nil)) rfl) (s_one (s_if (PW.pt (w_or (t_cmp (op_eqD hr.units) k_eq (e_name (i := 4) rfl (.inl rfl)) (e_name (i := 2) rfl (.inl rfl)) (nomark _)) (w_one_or (t_not (t_val (e_callS (dok_l0 T) rfl hr (by decide) tk (fun _ _ _ _ _ h => h) (i := 3) rfl (.inl rfl) (a_cons (e_sl rfl (e_name (i := 0) rfl (.inl rfl)) o_none (o_some (e_name (i := 4) rfl (.inl rfl)))) (a_cons (e_name (i := 5) rfl (.inl rfl)) a_nil)))))))) (s_one (s_ret (e_lst (a_cons (e_name (i := 4) rfl (.inl rfl)) a_nil)))) s_nil)))
    (s_one (s_ret (e_lst a_nil)))))
theorem ok_wrong_in_l0 (T : Top w S mg base) : Cal P w S mg base 4 "wrong_in" 4 m_wrong_in_l0 := by
  obtain ⟨fd, F⟩ := T.fn_wrong_in
  exact cal_of F (fnok_wrong_in_l0 T F) T.g_wrong_in (F.bindsN fun _ _ _ _ _ _ us hl => match us, hl with | [_, _, _, _], _ => rfl)
theorem fnok_wrong_in_places (T : Top w S mg base) {fd : FuncData} (F : FunD S.K "wrong_in_places" "wrong_in_places" (defArgs (top 25)) (defBody (top 25)) (defScope (top 25)) [] [] (He.fAd S.K ("wrong_in_places", none)) fd) : FnOk P w S.K mg base (L2.CX P w) 5 (He.fAd S.K ("wrong_in_places", none)) fd ["value"] (spF S 1 m_wrong_in_places) := by
  rw [m_wrong_in_places_eq]
  refine def_okC (N := ["value"]) (ps := ["value"]) F ⟨rfl, rfl, rfl, by decide +kernel, rfl, by decide +kernel, by decide +kernel⟩ fun A outer s H E hr tk => ?_
  have nd : (["value"] : List Str).Nodup := by decide +kernel
  exact (s_one (s_ret (e_callM (js := []) (ok_wrong_in_l0 T) rfl hr (by decide) rfl (T.lam 0 _ rfl) (a_consM (e_name (i := 0) rfl (.inl rfl)) (a_consM e_int (a_consM (e_glob rfl T.c_MOST_PLACES) (a_lam (L := lam_0) ⟨T.mk_wrong_in_places.1, rfl, T.mk_wrong_in_places.2.1, T.mk_wrong_in_places.2.2⟩ rfl rfl (by kernel_rfl))))) (by kernel_rfl) rfl (fun _ => rfl))))
theorem ok_wrong_in_places (T : Top w S mg base) : Cal P w S mg base 5 "wrong_in_places" 1 m_wrong_in_places := by
  obtain ⟨fd, F⟩ := T.fn_wrong_in_places
  exact cal_of F (fnok_wrong_in_places T F) T.g_wrong_in_places (F.bindsN fun _ _ _ _ _ _ us hl => match us, hl with | [_], _ => rfl)
theorem fnok_is_tuple_of (T : Top w S mg base) {a : Addr} {fd : FuncData} (F : FunD S.K "is_tuple_of" "is_tuple_of" (defArgs (top 17)) (defBody (top 17)) (defScope (top 17)) [] [] a fd) : FnOk P w S.K mg base (L2.CX P w) 1 a fd ["value", "many"] (spF S 2 m_is_tuple_of) := by
  rw [m_is_tuple_of_eq]
  refine def_ok (N := ["value", "many"]) (ps := ["value", "many"]) F ⟨rfl, rfl, rfl, by decide +kernel, rfl, by decide +kernel, by decide +kernel⟩ fun cdv A outer s H E hr tk => ?_
  have nd : (["value", "many"] : List Str).Nodup := by decide +kernel
  exact (s_one (s_ret (e_and (e_isiT T.isf rfl rfl T.z_isinstance rfl T.z_tuple (by decide +kernel) (e_name (i := 0) rfl (.inl rfl))) (e_one (e_cmp (op_eqD hr.units) k_eq (e_callB call_len (k_len rfl) rfl T.z_len boot_len (e_name (i := 0) rfl (.inl rfl))) (e_name (i := 1) rfl (.inl rfl)) (nomark _))))))
theorem ok_is_tuple_of (T : Top w S mg base) : Cal P w S mg base 1 "is_tuple_of" 2 m_is_tuple_of := by
  obtain ⟨fd, F⟩ := T.fn_is_tuple_of
  exact cal_of F (fnok_is_tuple_of T F) T.g_is_tuple_of (F.bindsN fun _ _ _ _ _ _ us hl => match us, hl with | [_, _], _ => rfl)
theorem fnok_is_pair (T : Top w S mg base) {a : Addr} {fd : FuncData} (F : FunD S.K "is_pair" "is_pair" (defArgs (top 18)) (defBody (top 18)) (defScope (top 18)) [] [] a fd) : FnOk P w S.K mg base (L2.CX P w) 2 a fd ["value"] (spF S 1 m_is_pair) := by
  rw [m_is_pair_eq]
  refine def_ok (N := ["value"]) (ps := ["value"]) F ⟨rfl, rfl, rfl, by decide +kernel, rfl, by decide +kernel, by decide +kernel⟩ fun cdv A outer s H E hr tk => ?_
  have nd : (["value"] : List Str).Nodup := by decide +kernel
  exact (s_one (s_ret (e_call (ok_is_tuple_of T) rfl hr (by decide) tk (fun _ _ _ _ _ h => h) rfl (a_cons (e_name (i := 0) rfl (.inl rfl)) (a_cons e_int a_nil)))))
theorem ok_is_pair (T : Top w S mg base) : Cal P w S mg base 2 "is_pair" 1 m_is_pair := by
  obtain ⟨fd, F⟩ := T.fn_is_pair
  exact cal_of F (fnok_is_pair T F) T.g_is_pair (F.bindsN fun _ _ _ _ _ _ us hl => match us, hl with | [_], _ => rfl)
theorem fnok_is_one_of (T : Top w S mg base) {a : Addr} {fd : FuncData} (F : FunD S.K "is_one_of" "is_one_of" (defArgs (top 14)) (defBody (top 14)) (defScope (top 14)) [] [] a fd) : FnOk P w S.K mg base (L2.CX P w) 1 a fd ["value", "words"] (spF S 2 m_is_one_of) := by
  rw [m_is_one_of_eq]
  refine def_ok (N := ["value", "words"]) (ps := ["value", "words"]) F ⟨rfl, rfl, rfl, by decide +kernel, rfl, by decide +kernel, by decide +kernel⟩ fun cdv A outer s H E hr tk => ?_
  have nd : (["value", "words"] : List Str).Nodup := by decide +kernel
  exact (s_one (s_ret (e_and (e_isiT T.isf rfl rfl T.z_isinstance rfl T.z_str (by decide +kernel) (e_name (i := 0) rfl (.inl rfl))) (e_one (e_in (u65 hr) rfl (e_name (i := 0) rfl (.inl rfl)) (e_name (i := 1) rfl (.inl rfl)) rfl)))))
theorem ok_is_one_of (T : Top w S mg base) : Cal P w S mg base 1 "is_one_of" 2 m_is_one_of := by
  obtain ⟨fd, F⟩ := T.fn_is_one_of
  exact cal_of F (fnok_is_one_of T F) T.g_is_one_of (F.bindsN fun _ _ _ _ _ _ us hl => match us, hl with | [_, _], _ => rfl)
theorem fnok_is_tie (T : Top w S mg base) {a : Addr} {fd : FuncData} (F : FunD S.K "is_tie" "is_tie" (defArgs (top 26)) (defBody (top 26)) (defScope (top 26)) [] [] a fd) : FnOk P w S.K mg base (L2.CX P w) 3 a fd ["places", "value"] (spF S 2 m_is_tie) := by
  rw [m_is_tie_eq]
  refine def_ok (N := ["places", "value"]) (ps := ["places", "value"]) F ⟨rfl, rfl, rfl, by decide +kernel, rfl, by decide +kernel, by decide +kernel⟩ fun cdv A outer s H E hr tk => ?_
  have nd : (["places", "value"] : List Str).Nodup := by decide +kernel
  exact (s_one (s_ret (e_and (e_call (ok_is_pair T) rfl hr (by decide) tk (fun _ _ _ _ _ h => h) rfl (a_cons (e_name (i := 1) rfl (.inl rfl)) a_nil)) (e_and (e_call (ok_is_one_of T) rfl hr (by decide) tk (fun _ _ _ _ _ h => h) rfl (a_cons (e_ix rfl (e_name (i := 1) rfl (.inl rfl)) e_int (fun _ _ => rfl)) (a_cons (e_name (i := 0) rfl (.inl rfl)) a_nil))) (e_and (e_call (ok_is_one_of T) rfl hr (by decide) tk (fun _ _ _ _ _ h => h) rfl (a_cons (e_ix rfl (e_name (i := 1) rfl (.inl rfl)) e_int (fun _ _ => rfl)) (a_cons (e_name (i := 0) rfl (.inl rfl)) a_nil))) (e_one (e_lts hr.units0 rfl (e_ix rfl (e_name (i := 1) rfl (.inl rfl)) e_int (fun _ _ => rfl)) (e_ix rfl (e_name (i := 1) rfl (.inl rfl)) e_int (fun _ _ => rfl)) (nomark _))))))))
theorem ok_is_tie (T : Top w S mg base) : Cal P w S mg base 3 "is_tie" 2 m_is_tie := by
  obtain ⟨fd, F⟩ := T.fn_is_tie
  exact cal_of F (fnok_is_tie T F) T.g_is_tie (F.bindsN fun _ _ _ _ _ _ us hl => match us, hl with | [_, _], _ => rfl)
theorem dok_l1 (T : Top w S mg base) : DispOk P w S mg base 4 2 dp_l1 := fun d m v H0 mm e h => by
  unfold dp_l1 at e
  split at e
  · cases e
    exact lam_callr (N := ["ahead", "each", "places"]) (ps := ["ahead", "each"]) (L := lam_1) (T.lam 1 _ rfl) (nscope_by (by decide +kernel)) (fun _ _ _ _ us hl => match us, hl with | [_, _], _ => rfl) (fun f cl c A outer s H E hr tk => by
      have nd : (["ahead", "each", "places"] : List Str).Nodup := by decide +kernel
      rw [lg_l1_eq]
      exact (e_and (e_call (ok_is_tie T) rfl hr (by decide) tk (fun _ _ _ _ _ h => h) rfl (a_cons (e_name (i := 2) rfl (.inr (.inr rfl))) (a_cons (e_name (i := 1) rfl (.inl rfl)) a_nil))) (e_one (e_call (ok_are_below T) rfl hr (by decide) tk (fun _ _ _ _ _ h => h) rfl (a_cons (e_name (i := 0) rfl (.inl rfl)) (a_cons (e_name (i := 1) rfl (.inl rfl)) a_nil)))))) h
  · cases e
theorem fnok_wrong_in_l1 (T : Top w S mg base) {a : Addr} {fd : FuncData} (F : FunD S.K "wrong_in" "wrong_in" (defArgs (top 19)) (defBody (top 19)) (defScope (top 19)) [] [] a fd) : FnOk P w S.K mg base (L2.CX P w) 5 a fd ["value", "least", "most", "is_right"] (spF S 4 m_wrong_in_l1) := by
  rw [m_wrong_in_l1_eq, fo_wrong_in_l1_2_eq, fb_wrong_in_l1_1_eq]
  refine def_ok (N := ["value", "least", "most", "is_right", "index", "each"]) (ps := ["value", "least", "most", "is_right"]) F ⟨rfl, rfl, rfl, by decide +kernel, rfl, by decide +kernel, by decide +kernel⟩ fun cdv A outer s H E hr tk => ?_
  have nd : (["value", "least", "most", "is_right", "index", "each"] : List Str).Nodup := by decide +kernel
  exact (s_cons (s_if (PW.pt (w_or (t_not (t_val (e_isiT T.isf rfl rfl T.z_isinstance rfl T.z_tuple (by decide +kernel) (e_name (i := 0) rfl (.inl rfl))))) (w_one_or (t_lts hr.units0 rfl (e_callB call_len (k_len rfl) rfl T.z_len boot_len (e_name (i := 0) rfl (.inl rfl))) (e_name (i := 1) rfl (.inl rfl)) (nomark _))))) (s_one (s_ret (e_lst (a_cons e_non a_nil)))) s_nil)
    (s_cons (s_for (passes_of rfl) rfl (i_enm rfl rfl T.z_enumerate (a_cons (e_name (i := 0) rfl (.inl rfl)) a_nil)) (g_tup rfl (gs_cons (g_name (i := 4) nd rfl (.inl rfl)) (gs_cons (g_name (i := 5) nd rfl (.inl rfl)) gs_nil)) rfl) (s_one (s_if (PW.pt (w_or (t_cmp (op_eqD hr.units) k_eq (e_name (i := 4) rfl (.inl rfl)) (e_name (i := 2) rfl (.inl rfl)) (nomark _)) (w_one_or (t_not (t_val (e_callS (dok_l1 T) rfl hr (by decide) tk (fun _ _ _ _ _ h => h) (i := 3) rfl (.inl rfl) (a_cons (e_sl rfl (e_name (i := 0) rfl (.inl rfl)) o_none (o_some (e_name (i := 4) rfl (.inl rfl)))) (a_cons (e_name (i := 5) rfl (.inl rfl)) a_nil)))))))) (s_one (s_ret (e_lst (a_cons (e_name (i := 4) rfl (.inl rfl)) a_nil)))) s_nil)))
    (s_one (s_ret (e_lst a_nil)))))
theorem ok_wrong_in_l1 (T : Top w S mg base) : Cal P w S mg base 5 "wrong_in" 4 m_wrong_in_l1 := by
  obtain ⟨fd, F⟩ := T.fn_wrong_in
  exact cal_of F (fnok_wrong_in_l1 T F) T.g_wrong_in (F.bindsN fun _ _ _ _ _ _ us hl => match us, hl with | [_, _, _, _], _ => rfl)
theorem fnok_wrong_in_ties (T : Top w S mg base) {fd : FuncData} (F : FunD S.K "wrong_in_ties" "wrong_in_ties" (defArgs (top 27)) (defBody (top 27)) (defScope (top 27)) [] [] (He.fAd S.K ("wrong_in_ties", none)) fd) : FnOk P w S.K mg base (L2.CX P w) 6 (He.fAd S.K ("wrong_in_ties", none)) fd ["places", "value"] (spF S 2 m_wrong_in_ties) := by
  rw [m_wrong_in_ties_eq]
  refine def_okC (N := ["places", "value"]) (ps := ["places", "value"]) F ⟨rfl, rfl, rfl, by decide +kernel, rfl, by decide +kernel, by decide +kernel⟩ fun A outer s H E hr tk => ?_
  have nd : (["places", "value"] : List Str).Nodup := by decide +kernel
  exact (s_one (s_ret (e_callM (js := [0]) (ok_wrong_in_l1 T) rfl hr (by decide) rfl (T.lam 1 _ rfl) (a_consM (e_name (i := 1) rfl (.inl rfl)) (a_consM e_int (a_consM (e_glob rfl T.c_MOST_TIES) (a_lam (L := lam_1) ⟨T.mk_wrong_in_ties.1, rfl, T.mk_wrong_in_ties.2.1, T.mk_wrong_in_ties.2.2⟩ rfl rfl (by kernel_rfl))))) (by kernel_rfl) rfl (fun _ => rfl))))
theorem ok_wrong_in_ties (T : Top w S mg base) : Cal P w S mg base 6 "wrong_in_ties" 2 m_wrong_in_ties := by
  obtain ⟨fd, F⟩ := T.fn_wrong_in_ties
  exact cal_of F (fnok_wrong_in_ties T F) T.g_wrong_in_ties (F.bindsN fun _ _ _ _ _ _ us hl => match us, hl with | [_, _], _ => rfl)
theorem fnok_Web___init__ (T : Top w S mg base) {a : Addr} {fd : FuncData} (F : FunD S.K "__init__" "Web.__init__" (defArgs (topM 43 0)) (defBody (topM 43 0)) (defScope (topM 43 0)) [] [] a fd) : FnOk P w S.K mg base (L2.CX P w) 7 a fd ["self", "places", "ties"] (spF S 3 m_Web___init__) := by
  rw [m_Web___init___eq, fo_Web___init___4_eq, fb_Web___init___3_eq, fo_Web___init___2_eq, fb_Web___init___1_eq]
  refine def_ok (N := ["self", "places", "ties", "index"]) (ps := ["self", "places", "ties"]) F ⟨rfl, rfl, rfl, by decide +kernel, rfl, by decide +kernel, by decide +kernel⟩ fun cdv A outer s H E hr tk => ?_
  have nd : (["self", "places", "ties", "index"] : List Str).Nodup := by decide +kernel
  exact (s_cons (s_for (passes_of rfl) rfl (i_any rfl (e_call (ok_wrong_in_places T) rfl hr (by decide) tk (fun _ _ _ _ _ h => h) rfl (a_cons (e_name (i := 1) rfl (.inl rfl)) a_nil))) (g_name (i := 3) nd rfl (.inl rfl)) (s_one s_never))
    (s_cons (s_for (passes_of rfl) rfl (i_any rfl (e_call (ok_wrong_in_ties T) rfl hr (by decide) tk (fun _ _ _ _ _ h => h) rfl (a_cons (e_name (i := 1) rfl (.inl rfl)) (a_cons (e_name (i := 2) rfl (.inl rfl)) a_nil)))) (g_name (i := 3) nd rfl (.inl rfl)) (s_one s_never))
    (s_one (s_fld rfl T.cf_Web_all_told (e_name (i := 0) rfl (.inl rfl)) (e_tup (a_cons (e_name (i := 1) rfl (.inl rfl)) (a_cons (e_name (i := 2) rfl (.inl rfl)) a_nil)))))))
theorem ci_Web (T : Top w S mg base) : CI P w S mg base 7 "Web" 3 m_Web___init__ := by
  obtain ⟨fd, F⟩ := T.fn_Web___init__
  exact ⟨_, fd, ["self", "places", "ties"], T.mkr_Web, fnok_Web___init__ T F, T.g_Web, F.bindsN fun _ _ _ _ _ _ us hl => match us, hl with | [_, _, _], _ => rfl⟩
theorem fnok__law_made (T : Top w S mg base) {a : Addr} {fd : FuncData} (F : FunD S.K "_law_made" "_law_made" (defArgs (top 81)) (defBody (top 81)) (defScope (top 81)) [] [] a fd) : FnOk P w S.K mg base (L2.CX P w) 9 a fd ["web"] (spF S 1 m__law_made) := by
  rw [m__law_made_eq]
  refine def_ok (N := ["web"]) (ps := ["web"]) F ⟨rfl, rfl, rfl, by decide +kernel, rfl, by decide +kernel, by decide +kernel⟩ fun cdv A outer s H E hr tk => ?_
  have nd : (["web"] : List Str).Nodup := by decide +kernel
  exact (s_one (s_ret (e_make (ci_Web T) rfl hr (by decide) rfl (a_cons (e_ix rfl (e_name (i := 0) rfl (.inl rfl)) e_int (fun _ _ => rfl)) (a_cons (e_ix rfl (e_name (i := 0) rfl (.inl rfl)) e_int (fun _ _ => rfl)) a_nil)))))
theorem ok__law_made (T : Top w S mg base) : Cal P w S mg base 9 "_law_made" 1 m__law_made := by
  obtain ⟨fd, F⟩ := T.fn__law_made
  exact cal_of F (fnok__law_made T F) T.g__law_made (F.bindsN fun _ _ _ _ _ _ us hl => match us, hl with | [_], _ => rfl)
theorem fnok__law_size (T : Top w S mg base) {a : Addr} {fd : FuncData} (F : FunD S.K "_law_size" "_law_size" (defArgs (top 80)) (defBody (top 80)) (defScope (top 80)) [] [] a fd) : FnOk P w S.K mg base (L2.CX P w) 1 a fd ["web", "rule"] (spF S 2 m__law_size) := by
  rw [m__law_size_eq]
  refine def_ok (N := ["web", "rule"]) (ps := ["web", "rule"]) F ⟨rfl, rfl, rfl, by decide +kernel, rfl, by decide +kernel, by decide +kernel⟩ fun cdv A outer s H E hr tk => ?_
  have nd : (["web", "rule"] : List Str).Nodup := by decide +kernel
  exact (s_cons (s_if (t_cmp (op_eqD hr.units) k_eq (e_name (i := 1) rfl (.inl rfl)) e_str (nomark _)) (s_one (s_ret (e_adds rfl (e_callB call_len (k_len rfl) rfl T.z_len boot_len (e_ix rfl (e_name (i := 0) rfl (.inl rfl)) e_int (fun _ _ => rfl))) (e_callB call_len (k_len rfl) rfl T.z_len boot_len (e_ix rfl (e_name (i := 0) rfl (.inl rfl)) e_int (fun _ _ => rfl)))))) s_nil)
    (s_one (s_ret (e_if (t_in (u65 hr) rfl (e_name (i := 1) rfl (.inl rfl)) (e_tup (a_cons e_str (a_cons e_str a_nil))) rfl) (e_callB call_len (k_len rfl) rfl T.z_len boot_len (e_ix rfl (e_name (i := 0) rfl (.inl rfl)) e_int (fun _ _ => rfl))) (e_callB call_len (k_len rfl) rfl T.z_len boot_len (e_ix rfl (e_name (i := 0) rfl (.inl rfl)) e_int (fun _ _ => rfl)))))))
theorem ok__law_size (T : Top w S mg base) : Cal P w S mg base 1 "_law_size" 2 m__law_size := by
  obtain ⟨fd, F⟩ := T.fn__law_size
  exact cal_of F (fnok__law_size T F) T.g__law_size (F.bindsN fun _ _ _ _ _ _ us hl => match us, hl with | [_, _], _ => rfl)
theorem fnok__law_text (T : Top w S mg base) {a : Addr} {fd : FuncData} (F : FunD S.K "_law_text" "_law_text" (defArgs (top 82)) (defBody (top 82)) (defScope (top 82)) [] [] a fd) : FnOk P w S.K mg base (L2.CX P w) 1 a fd ["web", "rule", "told"] (spF S 3 m__law_text) := by
  rw [m__law_text_eq, lc__law_text_3_eq, lc__law_text_2_eq, lc__law_text_1_eq]
  refine def_ok (N := ["web", "rule", "told", "words", "x", "here", "there", "rows", "i", "k"]) (ps := ["web", "rule", "told"]) F ⟨rfl, rfl, rfl, by decide +kernel, rfl, by decide +kernel, by decide +kernel⟩ fun cdv A outer s H E hr tk => ?_
  have nd : (["web", "rule", "told", "words", "x", "here", "there", "rows", "i", "k"] : List Str).Nodup := by decide +kernel
  exact (s_cons (s_setLc (i := 3) (own := [("x", 4)]) rfl nd rfl rfl (sw_true rfl rfl rfl (by kernel_rfl)) (i_any rfl (e_name (i := 2) rfl (.inl rfl))) (by kernel_rfl) (fun _ _ _ _ _ => (g_name (i := 4) nd rfl (by first | exact .inl rfl | exact .inr rfl))) (fun _ _ _ _ _ => c_nil) (fun _ _ _ _ _ => (e_if (t_isN (e_name (i := 4) rfl (by first | exact .inl rfl | exact .inr (.inr rfl) | exact .inr (.inl rfl)))) e_str (e_adds rfl e_str (e_callT call_str_int k_strOf rfl T.z_str (by decide +kernel) (e_name (i := 4) rfl (by first | exact .inl rfl | exact .inr (.inr rfl) | exact .inr (.inl rfl))))))))
    (s_cons (s_set (i := 5) nd rfl (.inr rfl) (e_frz (e_if (t_nin (u65 hr) rfl (e_name (i := 1) rfl (.inl rfl)) (e_tup (a_cons e_str (a_cons e_str a_nil))) rfl) (e_name (i := 3) rfl (.inl rfl)) (e_muls rfl (e_lst (a_cons e_str a_nil)) (e_callB call_len (k_len rfl) rfl T.z_len boot_len (e_ix rfl (e_name (i := 0) rfl (.inr (.inl rfl))) e_int (fun _ _ => rfl)))))))
    (s_cons (s_set (i := 6) nd rfl (.inr rfl) (e_frz (e_if (t_cmp (op_eqD hr.units) k_eq (e_name (i := 1) rfl (.inl rfl)) e_str (nomark _)) (e_sl rfl (e_name (i := 3) rfl (.inl rfl)) (o_some (e_callB call_len (k_len rfl) rfl T.z_len boot_len (e_ix rfl (e_name (i := 0) rfl (.inr (.inl rfl))) e_int (fun _ _ => rfl)))) o_none) (e_if (t_in (u65 hr) rfl (e_name (i := 1) rfl (.inl rfl)) (e_tup (a_cons e_str (a_cons e_str a_nil))) rfl) (e_name (i := 3) rfl (.inl rfl)) (e_muls rfl (e_lst (a_cons e_str a_nil)) (e_callB call_len (k_len rfl) rfl T.z_len boot_len (e_ix rfl (e_name (i := 0) rfl (.inr (.inl rfl))) e_int (fun _ _ => rfl))))))))
    (s_cons (s_set (i := 7) nd rfl (.inl rfl) (e_adds rfl (e_lst (a_cons (e_adds rfl e_str (e_name (i := 1) rfl (.inl rfl))) a_nil)) (e_lc (own := [("i", 8)]) rfl nd (i_rng1 rfl T.z_range (a_cons (e_callB call_len (k_len rfl) rfl T.z_len boot_len (e_ix rfl (e_name (i := 0) rfl (.inr (.inl rfl))) e_int (fun _ _ => rfl))) a_nil)) (by kernel_rfl) (fun _ _ _ _ _ => (g_name (i := 8) nd rfl (by first | exact .inl rfl | exact .inr rfl))) (fun _ _ _ _ _ => c_nil) (fun _ _ _ _ _ => (e_adds rfl (e_adds rfl e_str (e_ixA (u65 hr) rfl (e_ix rfl (e_name (i := 0) rfl (by first | exact .inl rfl | exact .inr (.inr rfl) | exact .inr (.inl rfl))) e_int (fun _ _ => rfl)) (e_name (i := 8) rfl (by first | exact .inl rfl | exact .inr (.inr rfl) | exact .inr (.inl rfl))) (fun _ _ => rfl))) (e_ixA (u65 hr) rfl (e_name (i := 5) rfl (by first | exact .inl rfl | exact .inr (.inr rfl) | exact .inr (.inl rfl))) (e_name (i := 8) rfl (by first | exact .inl rfl | exact .inr (.inr rfl) | exact .inr (.inl rfl))) (fun _ _ => rfl)))))))
    (s_one (s_ret (e_callT call_tuple_of (k_tuple rfl) rfl T.z_tuple (by decide +kernel) (e_adds rfl (e_name (i := 7) rfl (.inl rfl)) (e_lc (own := [("k", 9)]) rfl nd (i_rng1 rfl T.z_range (a_cons (e_callB call_len (k_len rfl) rfl T.z_len boot_len (e_ix rfl (e_name (i := 0) rfl (.inr (.inl rfl))) e_int (fun _ _ => rfl))) a_nil)) (by kernel_rfl) (fun _ _ _ _ _ => (g_name (i := 9) nd rfl (by first | exact .inl rfl | exact .inr rfl))) (fun _ _ _ _ _ => c_nil) (fun _ _ _ _ _ => (e_adds rfl (e_adds rfl (e_adds rfl (e_adds rfl e_str (e_ix rfl (e_ixA (u65 hr) rfl (e_ix rfl (e_name (i := 0) rfl (by first | exact .inl rfl | exact .inr (.inr rfl) | exact .inr (.inl rfl))) e_int (fun _ _ => rfl)) (e_name (i := 9) rfl (by first | exact .inl rfl | exact .inr (.inr rfl) | exact .inr (.inl rfl))) (fun _ _ => rfl)) e_int (fun _ _ => rfl))) e_str) (e_ix rfl (e_ixA (u65 hr) rfl (e_ix rfl (e_name (i := 0) rfl (by first | exact .inl rfl | exact .inr (.inr rfl) | exact .inr (.inl rfl))) e_int (fun _ _ => rfl)) (e_name (i := 9) rfl (by first | exact .inl rfl | exact .inr (.inr rfl) | exact .inr (.inl rfl))) (fun _ _ => rfl)) e_int (fun _ _ => rfl))) (e_ixA (u65 hr) rfl (e_name (i := 6) rfl (by first | exact .inl rfl | exact .inr (.inr rfl) | exact .inr (.inl rfl))) (e_name (i := 9) rfl (by first | exact .inl rfl | exact .inr (.inr rfl) | exact .inr (.inl rfl))) (fun _ _ => rfl)))))))))))))
theorem ok__law_text (T : Top w S mg base) : Cal P w S mg base 1 "_law_text" 3 m__law_text := by
  obtain ⟨fd, F⟩ := T.fn__law_text
  exact cal_of F (fnok__law_text T F) T.g__law_text (F.bindsN fun _ _ _ _ _ _ us hl => match us, hl with | [_, _, _], _ => rfl)
theorem fnok_words_of (T : Top w S mg base) {a : Addr} {fd : FuncData} (F : FunD S.K "words_of" "words_of" (defArgs (top 61)) (defBody (top 61)) (defScope (top 61)) [] [] a fd) : FnOk P w S.K mg base (L2.CX P w) 1 a fd ["value"] (spF S 1 m_words_of) := by
  rw [m_words_of_eq]
  refine def_ok (N := ["value"]) (ps := ["value"]) F ⟨rfl, rfl, rfl, by decide +kernel, rfl, by decide +kernel, by decide +kernel⟩ fun cdv A outer s H E hr tk => ?_
  have nd : (["value"] : List Str).Nodup := by decide +kernel
  exact (s_one (s_ret (e_if (t_val (e_isiT T.isf rfl rfl T.z_isinstance rfl T.z_str (by decide +kernel) (e_name (i := 0) rfl (.inl rfl)))) (e_callT call_tuple_of (k_tuple rfl) rfl T.z_tuple (by decide +kernel) (e_meth rfl PySem.F.plainAttrs_str PySem.F.slot_str_split PySem.F.type_str_split mt_split k_split (e_name (i := 0) rfl (.inl rfl)) (a_cons e_str a_nil))) (e_tup (a_cons e_str a_nil)))))
theorem ok_words_of (T : Top w S mg base) : Cal P w S mg base 1 "words_of" 1 m_words_of := by
  obtain ⟨fd, F⟩ := T.fn_words_of
  exact cal_of F (fnok_words_of T F) T.g_words_of (F.bindsN fun _ _ _ _ _ _ us hl => match us, hl with | [_], _ => rfl)
theorem fnok_is_rule_row (T : Top w S mg base) {a : Addr} {fd : FuncData} (F : FunD S.K "is_rule_row" "is_rule_row" (defArgs (top 62)) (defBody (top 62)) (defScope (top 62)) [] [] a fd) : FnOk P w S.K mg base (L2.CX P w) 1 a fd ["words"] (spF S 1 m_is_rule_row) := by
  rw [m_is_rule_row_eq]
  refine def_ok (N := ["words"]) (ps := ["words"]) F ⟨rfl, rfl, rfl, by decide +kernel, rfl, by decide +kernel, by decide +kernel⟩ fun cdv A outer s H E hr tk => ?_
  have nd : (["words"] : List Str).Nodup := by decide +kernel
  exact (s_one (s_ret (e_and (e_cmp (op_eqD hr.units) k_eq (e_callB call_len (k_len rfl) rfl T.z_len boot_len (e_name (i := 0) rfl (.inl rfl))) e_int (nomark _)) (e_and (e_cmp (op_eqD hr.units) k_eq (e_ix rfl (e_name (i := 0) rfl (.inl rfl)) e_int (fun _ _ => rfl)) (e_glob rfl T.c_RULE) (nomark _)) (e_one (e_in (u65 hr) rfl (e_ix rfl (e_name (i := 0) rfl (.inl rfl)) e_int (fun _ _ => rfl)) (e_glob rfl T.c_RULES) rfl))))))
theorem ok_is_rule_row (T : Top w S mg base) : Cal P w S mg base 1 "is_rule_row" 1 m_is_rule_row := by
  obtain ⟨fd, F⟩ := T.fn_is_rule_row
  exact cal_of F (fnok_is_rule_row T F) T.g_is_rule_row (F.bindsN fun _ _ _ _ _ _ us hl => match us, hl with | [_], _ => rfl)
theorem fnok_marked_words (T : Top w S mg base) {a : Addr} {fd : FuncData} (F : FunD S.K "marked_words" "marked_words" (defArgs (top 60)) (defBody (top 60)) (defScope (top 60)) [] [] a fd) : FnOk P w S.K mg base (L2.CX P w) 1 a fd ["rule"] (spF S 1 m_marked_words) := by
  rw [m_marked_words_eq]
  refine def_ok (N := ["rule"]) (ps := ["rule"]) F ⟨rfl, rfl, rfl, by decide +kernel, rfl, by decide +kernel, by decide +kernel⟩ fun cdv A outer s H E hr tk => ?_
  have nd : (["rule"] : List Str).Nodup := by decide +kernel
  exact (s_cons (s_if (t_cmp (op_eqD hr.units) k_eq (e_name (i := 0) rfl (.inl rfl)) (e_glob rfl T.c_LIKE) (nomark _)) (s_one (s_ret (e_tup (a_cons (e_glob rfl T.c_PLACE) (a_cons (e_glob rfl T.c_TIE) a_nil))))) s_nil)
    (s_one (s_ret (e_if (t_in (u65 hr) rfl (e_name (i := 0) rfl (.inl rfl)) (e_tup (a_cons (e_glob rfl T.c_UNLIKE) (a_cons (e_glob rfl T.c_ONES) a_nil))) rfl) (e_tup (a_cons (e_glob rfl T.c_TIE) a_nil)) (e_tup (a_cons (e_glob rfl T.c_PLACE) a_nil))))))
theorem ok_marked_words (T : Top w S mg base) : Cal P w S mg base 1 "marked_words" 1 m_marked_words := by
  obtain ⟨fd, F⟩ := T.fn_marked_words
  exact cal_of F (fnok_marked_words T F) T.g_marked_words (F.bindsN fun _ _ _ _ _ _ us hl => match us, hl with | [_], _ => rfl)
theorem fnok_is_figures (T : Top w S mg base) {a : Addr} {fd : FuncData} (F : FunD S.K "is_figures" "is_figures" (defArgs (top 59)) (defBody (top 59)) (defScope (top 59)) [] [] a fd) : FnOk P w S.K mg base (L2.CX P w) 1 a fd ["word"] (spF S 1 m_is_figures) := by
  rw [m_is_figures_eq, lc_is_figures_1_eq]
  refine def_ok (N := ["word", "sign"]) (ps := ["word"]) F ⟨rfl, rfl, rfl, by decide +kernel, rfl, by decide +kernel, by decide +kernel⟩ fun cdv A outer s H E hr tk => ?_
  have nd : (["word", "sign"] : List Str).Nodup := by decide +kernel
  exact (s_cons (s_if (PW.pt (w_or (t_cmp (op_eqD hr.units) k_eq (e_name (i := 0) rfl (.inl rfl)) e_str (nomark _)) (w_or (t_cmp op_gt k_gt (e_callB call_len (k_len rfl) rfl T.z_len boot_len (e_name (i := 0) rfl (.inl rfl))) (e_glob rfl T.c_MOST_FIGURES) (nomark _)) (w_one_or (t_not (t_val (e_callB (cr_all rfl) (k_all rfl) rfl T.z_all PyProof.Rows.boot_all (e_lc (own := [("sign", 1)]) rfl nd (i_any rfl (e_name (i := 0) rfl (.inl rfl))) (by kernel_rfl) (fun _ _ _ _ _ => (g_name (i := 1) nd rfl (by first | exact .inl rfl | exact .inr rfl))) (fun _ _ _ _ _ => c_nil) (fun _ _ _ _ _ => (e_in (u65 hr) rfl (e_name (i := 1) rfl (by first | exact .inl rfl | exact .inr (.inr rfl) | exact .inr (.inl rfl))) (e_glob rfl T.c_FIGURES) rfl)))))))))) (s_one (s_ret e_bl)) s_nil)
    (s_one (s_ret (e_or (e_cmp (op_eqD hr.units) k_eq (e_name (i := 0) rfl (.inl rfl)) e_str (nomark _)) (e_one (e_cmp (op_neD hr.units) k_ne (e_ix rfl (e_name (i := 0) rfl (.inl rfl)) e_int (fun _ _ => rfl)) e_str (nomark _)))))))
theorem ok_is_figures (T : Top w S mg base) : Cal P w S mg base 1 "is_figures" 1 m_is_figures := by
  obtain ⟨fd, F⟩ := T.fn_is_figures
  exact cal_of F (fnok_is_figures T F) T.g_is_figures (F.bindsN fun _ _ _ _ _ _ us hl => match us, hl with | [_], _ => rfl)
theorem fnok_is_row (T : Top w S mg base) {a : Addr} {fd : FuncData} (F : FunD S.K "is_row" "is_row" (defArgs (top 63)) (defBody (top 63)) (defScope (top 63)) [] [] a fd) : FnOk P w S.K mg base (L2.CX P w) 2 a fd ["rule", "words"] (spF S 2 m_is_row) := by
  rw [m_is_row_eq, lc_is_row_1_eq]
  refine def_ok (N := ["rule", "words", "many", "word"]) (ps := ["rule", "words"]) F ⟨rfl, rfl, rfl, by decide +kernel, rfl, by decide +kernel, by decide +kernel⟩ fun cdv A outer s H E hr tk => ?_
  have nd : (["rule", "words", "many", "word"] : List Str).Nodup := by decide +kernel
  exact (s_cons (s_if (t_kdnin T.kd_NAMES rfl rfl (e_ix rfl (e_name (i := 1) rfl (.inl rfl)) e_int (fun _ _ => rfl)) rfl) (s_one (s_ret e_bl)) s_nil)
    (s_cons (s_set (i := 2) nd rfl (.inl rfl) (e_adds rfl e_int (e_kdget T.kd_NAMES rfl rfl (e_ix rfl (e_name (i := 1) rfl (.inl rfl)) e_int (fun _ _ => rfl)) (fun _ _ => rfl))))
    (s_cons (s_if (t_in (u65 hr) rfl (e_ix rfl (e_name (i := 1) rfl (.inl rfl)) e_int (fun _ _ => rfl)) (e_call (ok_marked_words T) rfl hr (by decide) tk (fun _ _ _ _ _ h => h) rfl (a_cons (e_name (i := 0) rfl (.inl rfl)) a_nil)) rfl) (s_one (s_if (PW.pt (w_or (t_cmp (op_neD hr.units) k_ne (e_callB call_len (k_len rfl) rfl T.z_len boot_len (e_name (i := 1) rfl (.inl rfl))) (e_adds rfl (e_name (i := 2) rfl (.inl rfl)) e_int) (nomark _)) (w_one_or (t_not (PW.pt (w_or (t_cmp (op_eqD hr.units) k_eq (e_ix rfl (e_name (i := 1) rfl (.inl rfl)) (e_neg e_int) (fun _ _ => rfl)) (e_glob rfl T.c_OPEN) (nomark _)) (w_one_or (t_val (e_call (ok_is_figures T) rfl hr (by decide) tk (fun _ _ _ _ _ h => h) rfl (a_cons (e_ix rfl (e_name (i := 1) rfl (.inl rfl)) (e_neg e_int) (fun _ _ => rfl)) a_nil)))))))))) (s_one (s_ret e_bl)) s_nil)) (s_one (s_if (t_cmp (op_neD hr.units) k_ne (e_callB call_len (k_len rfl) rfl T.z_len boot_len (e_name (i := 1) rfl (.inl rfl))) (e_name (i := 2) rfl (.inl rfl)) (nomark _)) (s_one (s_ret e_bl)) s_nil)))
    (s_one (s_ret (e_callB (cr_all rfl) (k_all rfl) rfl T.z_all PyProof.Rows.boot_all (e_lc (own := [("word", 3)]) rfl nd (i_any rfl (e_sl rfl (e_name (i := 1) rfl (.inl rfl)) (o_some e_int) (o_some (e_name (i := 2) rfl (.inl rfl))))) (by kernel_rfl) (fun _ _ _ _ _ => (g_name (i := 3) nd rfl (by first | exact .inl rfl | exact .inr rfl))) (fun _ _ _ _ _ => c_nil) (fun _ _ _ _ _ => (e_call (ok_is_word T) rfl hr (by decide) LamX.takes0 (fun _ _ _ _ _ h => h) rfl (a_cons (e_name (i := 3) rfl (by first | exact .inl rfl | exact .inr (.inr rfl) | exact .inr (.inl rfl))) a_nil))))))))))
theorem ok_is_row (T : Top w S mg base) : Cal P w S mg base 2 "is_row" 2 m_is_row := by
  obtain ⟨fd, F⟩ := T.fn_is_row
  exact cal_of F (fnok_is_row T F) T.g_is_row (F.bindsN fun _ _ _ _ _ _ us hl => match us, hl with | [_, _], _ => rfl)
theorem fnok_wrong_in_lines (T : Top w S mg base) {a : Addr} {fd : FuncData} (F : FunD S.K "wrong_in_lines" "wrong_in_lines" (defArgs (top 64)) (defBody (top 64)) (defScope (top 64)) [] [] a fd) : FnOk P w S.K mg base (L2.CX P w) 3 a fd ["value"] (spF S 1 m_wrong_in_lines) := by
  rw [m_wrong_in_lines_eq, fo_wrong_in_lines_3_eq, fb_wrong_in_lines_2_eq, lc_wrong_in_lines_1_eq]
  refine def_ok (N := ["value", "rows", "row", "ahead", "index", "words"]) (ps := ["value"]) F ⟨rfl, rfl, rfl, by decide +kernel, rfl, by decide +kernel, by decide +kernel⟩ fun cdv A outer s H E hr tk => ?_
  have nd : (["value", "rows", "row", "ahead", "index", "words"] : List Str).Nodup := by decide +kernel
  exact (s_cons (s_if (PW.pt (w_or (t_not (t_val (e_isiT T.isf rfl rfl T.z_isinstance rfl T.z_tuple (by decide +kernel) (e_name (i := 0) rfl (.inl rfl))))) (w_one_or (t_cmp (op_eqD hr.units) k_eq (e_name (i := 0) rfl (.inl rfl)) (e_tup a_nil) (nomark _))))) (s_one (s_ret (e_lst (a_cons e_non a_nil)))) s_nil)
    (s_cons (s_setLc (i := 1) (own := [("row", 2)]) rfl nd rfl rfl (sw_true rfl rfl rfl (by kernel_rfl)) (i_any rfl (e_name (i := 0) rfl (.inl rfl))) (by kernel_rfl) (fun _ _ _ _ _ => (g_name (i := 2) nd rfl (by first | exact .inl rfl | exact .inr rfl))) (fun _ _ _ _ _ => c_nil) (fun _ _ _ _ _ => (e_call (ok_words_of T) rfl hr (by decide) LamX.takes0 (fun _ _ _ _ _ h => h) rfl (a_cons (e_name (i := 2) rfl (by first | exact .inl rfl | exact .inr (.inr rfl) | exact .inr (.inl rfl))) a_nil))))
    (s_cons (s_if (t_not (t_val (e_call (ok_is_rule_row T) rfl hr (by decide) tk (fun _ _ _ _ _ h => h) rfl (a_cons (e_ix rfl (e_name (i := 1) rfl (.inl rfl)) e_int (fun _ _ => rfl)) a_nil)))) (s_one (s_ret (e_lst (a_cons e_int a_nil)))) s_nil)
    (s_cons (s_set (i := 3) nd rfl (.inl rfl) (e_glob rfl T.c_PLACE))
    (s_cons (s_for (passes_of rfl) rfl (i_enm rfl rfl T.z_enumerate (a_cons (e_sl rfl (e_name (i := 1) rfl (.inl rfl)) (o_some e_int) o_none) a_nil)) (g_tup rfl (gs_cons (g_name (i := 4) nd rfl (.inl rfl)) (gs_cons (g_name (i := 5) nd rfl (.inl rfl)) gs_nil)) rfl) (s_cons (s_if (PW.pt (w_or (t_not (t_val (e_call (ok_is_row T) rfl hr (by decide) tk (fun _ _ _ _ _ h => h) rfl (a_cons (e_ix rfl (e_ix rfl (e_name (i := 1) rfl (.inl rfl)) e_int (fun _ _ => rfl)) e_int (fun _ _ => rfl)) (a_cons (e_name (i := 5) rfl (.inl rfl)) a_nil))))) (w_one_or (t_lts hr.units0 rfl (e_tix T.ct_ORDER rfl rfl (a_cons (e_ix rfl (e_name (i := 5) rfl (.inl rfl)) e_int (fun _ _ => rfl)) a_nil)) (e_tix T.ct_ORDER rfl rfl (a_cons (e_name (i := 3) rfl (.inl rfl)) a_nil)) (nomark _))))) (s_one (s_ret (e_lst (a_cons (e_adds rfl (e_name (i := 4) rfl (.inl rfl)) e_int) a_nil)))) s_nil)
    (s_one (s_set (i := 3) nd rfl (.inl rfl) (e_ix rfl (e_name (i := 5) rfl (.inl rfl)) e_int (fun _ _ => rfl))))))
    (s_one (s_ret (e_lst a_nil))))))))
theorem ok_wrong_in_lines (T : Top w S mg base) : Cal P w S mg base 3 "wrong_in_lines" 1 m_wrong_in_lines := by
  obtain ⟨fd, F⟩ := T.fn_wrong_in_lines
  exact cal_of F (fnok_wrong_in_lines T F) T.g_wrong_in_lines (F.bindsN fun _ _ _ _ _ _ us hl => match us, hl with | [_], _ => rfl)
theorem fnok_mark_in (T : Top w S mg base) {a : Addr} {fd : FuncData} (F : FunD S.K "mark_in" "mark_in" (defArgs (top 65)) (defBody (top 65)) (defScope (top 65)) [] [] a fd) : FnOk P w S.K mg base (L2.CX P w) 1 a fd ["words"] (spF S 1 m_mark_in) := by
  rw [m_mark_in_eq]
  refine def_ok (N := ["words"]) (ps := ["words"]) F ⟨rfl, rfl, rfl, by decide +kernel, rfl, by decide +kernel, by decide +kernel⟩ fun cdv A outer s H E hr tk => ?_
  have nd : (["words"] : List Str).Nodup := by decide +kernel
  exact (s_one (s_ret (e_if (t_cmp (op_eqD hr.units) k_eq (e_ix rfl (e_name (i := 0) rfl (.inl rfl)) (e_neg e_int) (fun _ _ => rfl)) (e_glob rfl T.c_OPEN) (nomark _)) e_non (e_callT call_ints k_intOf rfl T.z_int (by decide +kernel) (e_ix rfl (e_name (i := 0) rfl (.inl rfl)) (e_neg e_int) (fun _ _ => rfl))))))
theorem ok_mark_in (T : Top w S mg base) : Cal P w S mg base 1 "mark_in" 1 m_mark_in := by
  obtain ⟨fd, F⟩ := T.fn_mark_in
  exact cal_of F (fnok_mark_in T F) T.g_mark_in (F.bindsN fun _ _ _ _ _ _ us hl => match us, hl with | [_], _ => rfl)
theorem fnok_told_by (T : Top w S mg base) {a : Addr} {fd : FuncData} (F : FunD S.K "told_by" "told_by" (defArgs (top 66)) (defBody (top 66)) (defScope (top 66)) [] [] a fd) : FnOk P w S.K mg base (L2.CX P w) 2 a fd ["rows"] (spF S 1 m_told_by) := by
  rw [m_told_by_eq, lc_told_by_4_eq, lc_told_by_3_eq, lc_told_by_2_eq, lc_told_by_1_eq]
  refine def_ok (N := ["rows", "told", "row", "rule", "names", "words", "pairs"]) (ps := ["rows"]) F ⟨rfl, rfl, rfl, by decide +kernel, rfl, by decide +kernel, by decide +kernel⟩ fun cdv A outer s H E hr tk => ?_
  have nd : (["rows", "told", "row", "rule", "names", "words", "pairs"] : List Str).Nodup := by decide +kernel
  exact (s_cons (s_setLc (i := 1) (own := [("row", 2)]) rfl nd rfl rfl (sw_true rfl rfl rfl (by kernel_rfl)) (i_any rfl (e_name (i := 0) rfl (.inl rfl))) (by kernel_rfl) (fun _ _ _ _ _ => (g_name (i := 2) nd rfl (by first | exact .inl rfl | exact .inr rfl))) (fun _ _ _ _ _ => c_nil) (fun _ _ _ _ _ => (e_call (ok_words_of T) rfl hr (by decide) LamX.takes0 (fun _ _ _ _ _ h => h) rfl (a_cons (e_name (i := 2) rfl (by first | exact .inl rfl | exact .inr (.inr rfl) | exact .inr (.inl rfl))) a_nil))))
    (s_cons (s_set (i := 3) nd rfl (.inr rfl) (e_ix rfl (e_ix rfl (e_name (i := 1) rfl (.inl rfl)) e_int (fun _ _ => rfl)) e_int (fun _ _ => rfl)))
    (s_cons (s_set (i := 4) nd rfl (.inl rfl) (e_callT call_tuple_of (k_tuple rfl) rfl T.z_tuple (by decide +kernel) (e_lc (own := [("words", 5)]) rfl nd (i_any rfl (e_sl rfl (e_name (i := 1) rfl (.inl rfl)) (o_some e_int) o_none)) (by kernel_rfl) (fun _ _ _ _ _ => (g_name (i := 5) nd rfl (by first | exact .inl rfl | exact .inr rfl))) (fun _ _ _ _ _ => (c_one (t_cmp (op_eqD hr.units) k_eq (e_ix rfl (e_name (i := 5) rfl (by first | exact .inl rfl | exact .inr (.inr rfl) | exact .inr (.inl rfl))) e_int (fun _ _ => rfl)) (e_glob rfl T.c_PLACE) (nomark _)))) (fun _ _ _ _ _ => (e_ix rfl (e_name (i := 5) rfl (by first | exact .inl rfl | exact .inr (.inr rfl) | exact .inr (.inl rfl))) e_int (fun _ _ => rfl))))))
    (s_cons (s_set (i := 6) nd rfl (.inl rfl) (e_callT call_tuple_of (k_tuple rfl) rfl T.z_tuple (by decide +kernel) (e_lc (own := [("words", 5)]) rfl nd (i_any rfl (e_sl rfl (e_name (i := 1) rfl (.inl rfl)) (o_some e_int) o_none)) (by kernel_rfl) (fun _ _ _ _ _ => (g_name (i := 5) nd rfl (by first | exact .inl rfl | exact .inr rfl))) (fun _ _ _ _ _ => (c_one (t_cmp (op_eqD hr.units) k_eq (e_ix rfl (e_name (i := 5) rfl (by first | exact .inl rfl | exact .inr (.inr rfl) | exact .inr (.inl rfl))) e_int (fun _ _ => rfl)) (e_glob rfl T.c_TIE) (nomark _)))) (fun _ _ _ _ _ => (e_sl rfl (e_name (i := 5) rfl (by first | exact .inl rfl | exact .inr (.inr rfl) | exact .inr (.inl rfl))) (o_some e_int) (o_some e_int))))))
    (s_one (s_ret (e_tup (a_cons (e_name (i := 3) rfl (.inr (.inl rfl))) (a_cons (e_name (i := 4) rfl (.inl rfl)) (a_cons (e_name (i := 6) rfl (.inl rfl)) (a_cons (e_callT call_tuple_of (k_tuple rfl) rfl T.z_tuple (by decide +kernel) (e_lc (own := [("words", 5)]) rfl nd (i_any rfl (e_sl rfl (e_name (i := 1) rfl (.inl rfl)) (o_some e_int) o_none)) (by kernel_rfl) (fun _ _ _ _ _ => (g_name (i := 5) nd rfl (by first | exact .inl rfl | exact .inr rfl))) (fun _ _ _ _ _ => (c_one (t_in (u65 hr) rfl (e_ix rfl (e_name (i := 5) rfl (by first | exact .inl rfl | exact .inr (.inr rfl) | exact .inr (.inl rfl))) e_int (fun _ _ => rfl)) (e_call (ok_marked_words T) rfl hr (by decide) LamX.takes0 (fun _ _ _ _ _ h => h) rfl (a_cons (e_name (i := 3) rfl (by first | exact .inl rfl | exact .inr (.inr rfl) | exact .inr (.inl rfl))) a_nil)) rfl))) (fun _ _ _ _ _ => (e_call (ok_mark_in T) rfl hr (by decide) LamX.takes0 (fun _ _ _ _ _ h => h) rfl (a_cons (e_name (i := 5) rfl (by first | exact .inl rfl | exact .inr (.inr rfl) | exact .inr (.inl rfl))) a_nil))))) a_nil)))))))))))
theorem ok_told_by (T : Top w S mg base) : Cal P w S mg base 2 "told_by" 1 m_told_by := by
  obtain ⟨fd, F⟩ := T.fn_told_by
  exact cal_of F (fnok_told_by T F) T.g_told_by (F.bindsN fun _ _ _ _ _ _ us hl => match us, hl with | [_], _ => rfl)
theorem fnok_check_web (T : Top w S mg base) {a : Addr} {fd : FuncData} (F : FunD S.K "check_web" "check_web" (defArgs (top 44)) (defBody (top 44)) (defScope (top 44)) [] [] a fd) : FnOk P w S.K mg base (L2.CX P w) 1 a fd ["web"] (spF S 1 m_check_web) := by
  rw [m_check_web_eq]
  refine def_ok (N := ["web"]) (ps := ["web"]) F ⟨rfl, rfl, rfl, by decide +kernel, rfl, by decide +kernel, by decide +kernel⟩ fun cdv A outer s H E hr tk => ?_
  have nd : (["web"] : List Str).Nodup := by decide +kernel
  exact (s_one (s_if (t_not (t_val (e_isiC T.isf rfl rfl T.z_isinstance rfl T.g_Web (e_name (i := 0) rfl (.inl rfl))))) (s_one s_never) s_nil))
theorem ok_check_web (T : Top w S mg base) : Cal P w S mg base 1 "check_web" 1 m_check_web := by
  obtain ⟨fd, F⟩ := T.fn_check_web
  exact cal_of F (fnok_check_web T F) T.g_check_web (F.bindsN fun _ _ _ _ _ _ us hl => match us, hl with | [_], _ => rfl)
theorem fnok_Web_places (T : Top w S mg base) {a : Addr} {fd : FuncData} (F : FunD S.K "places" "Web.places" (defArgs (topM 43 1)) (defBody (topM 43 1)) (defScope (topM 43 1)) [] [] a fd) : FnOk P w S.K mg base (L2.CX P w) 1 a fd ["self"] (spF S 1 m_Web_places) := by
  rw [m_Web_places_eq]
  refine def_ok (N := ["self"]) (ps := ["self"]) F ⟨rfl, rfl, rfl, by decide +kernel, rfl, by decide +kernel, by decide +kernel⟩ fun cdv A outer s H E hr tk => ?_
  have nd : (["self"] : List Str).Nodup := by decide +kernel
  exact (s_one (s_ret (e_ix rfl (e_fld rfl T.cf_Web_all_told (e_name (i := 0) rfl (.inl rfl))) e_int (fun _ _ => rfl))))
theorem cp_Web_places (T : Top w S mg base) : CP P w S mg base 1 "Web" "places" m_Web_places := by
  obtain ⟨p, g, fd, hp, F⟩ := T.pp_Web_places
  exact ⟨T.cls_Web, p, g, fd, ["self"], hp, fnok_Web_places T F, F.bindsN fun _ _ _ _ _ _ us hl => match us, hl with | [_], _ => rfl⟩
theorem fnok_Web_ties (T : Top w S mg base) {a : Addr} {fd : FuncData} (F : FunD S.K "ties" "Web.ties" (defArgs (topM 43 2)) (defBody (topM 43 2)) (defScope (topM 43 2)) [] [] a fd) : FnOk P w S.K mg base (L2.CX P w) 1 a fd ["self"] (spF S 1 m_Web_ties) := by
  rw [m_Web_ties_eq]
  refine def_ok (N := ["self"]) (ps := ["self"]) F ⟨rfl, rfl, rfl, by decide +kernel, rfl, by decide +kernel, by decide +kernel⟩ fun cdv A outer s H E hr tk => ?_
  have nd : (["self"] : List Str).Nodup := by decide +kernel
  exact (s_one (s_ret (e_ix rfl (e_fld rfl T.cf_Web_all_told (e_name (i := 0) rfl (.inl rfl))) e_int (fun _ _ => rfl))))
theorem cp_Web_ties (T : Top w S mg base) : CP P w S mg base 1 "Web" "ties" m_Web_ties := by
  obtain ⟨p, g, fd, hp, F⟩ := T.pp_Web_ties
  exact ⟨T.cls_Web, p, g, fd, ["self"], hp, fnok_Web_ties T F, F.bindsN fun _ _ _ _ _ _ us hl => match us, hl with | [_], _ => rfl⟩
theorem fnok_size_by (T : Top w S mg base) {a : Addr} {fd : FuncData} (F : FunD S.K "size_by" "size_by" (defArgs (top 39)) (defBody (top 39)) (defScope (top 39)) [] [] a fd) : FnOk P w S.K mg base (L2.CX P w) 3 a fd ["web", "rule"] (spF S 2 m_size_by) := by
  rw [m_size_by_eq]
  refine def_ok (N := ["web", "rule"]) (ps := ["web", "rule"]) F ⟨rfl, rfl, rfl, by decide +kernel, rfl, by decide +kernel, by decide +kernel⟩ fun cdv A outer s H E hr tk => ?_
  have nd : (["web", "rule"] : List Str).Nodup := by decide +kernel
  exact (s_cons (s_if (t_cmp (op_eqD hr.units) k_eq (e_name (i := 1) rfl (.inl rfl)) (e_glob rfl T.c_LIKE) (nomark _)) (s_one (s_ret (e_adds rfl (e_callB call_len (k_len rfl) rfl T.z_len boot_len (e_prop rfl (cp_Web_places T) hr (by decide) (e_name (i := 0) rfl (.inl rfl)))) (e_callB call_len (k_len rfl) rfl T.z_len boot_len (e_prop rfl (cp_Web_ties T) hr (by decide) (e_name (i := 0) rfl (.inl rfl))))))) s_nil)
    (s_one (s_ret (e_if (t_in (u65 hr) rfl (e_name (i := 1) rfl (.inl rfl)) (e_tup (a_cons (e_glob rfl T.c_UNLIKE) (a_cons (e_glob rfl T.c_ONES) a_nil))) rfl) (e_callB call_len (k_len rfl) rfl T.z_len boot_len (e_prop rfl (cp_Web_ties T) hr (by decide) (e_name (i := 0) rfl (.inl rfl)))) (e_callB call_len (k_len rfl) rfl T.z_len boot_len (e_prop rfl (cp_Web_places T) hr (by decide) (e_name (i := 0) rfl (.inl rfl))))))))
theorem ok_size_by (T : Top w S mg base) : Cal P w S mg base 3 "size_by" 2 m_size_by := by
  obtain ⟨fd, F⟩ := T.fn_size_by
  exact cal_of F (fnok_size_by T F) T.g_size_by (F.bindsN fun _ _ _ _ _ _ us hl => match us, hl with | [_, _], _ => rfl)
theorem fnok_check_rule (T : Top w S mg base) {a : Addr} {fd : FuncData} (F : FunD S.K "check_rule" "check_rule" (defArgs (top 48)) (defBody (top 48)) (defScope (top 48)) [] [] a fd) : FnOk P w S.K mg base (L2.CX P w) 4 a fd ["web", "rule"] (spF S 2 m_check_rule) := by
  rw [m_check_rule_eq]
  refine def_ok (N := ["web", "rule", "most"]) (ps := ["web", "rule"]) F ⟨rfl, rfl, rfl, by decide +kernel, rfl, by decide +kernel, by decide +kernel⟩ fun cdv A outer s H E hr tk => ?_
  have nd : (["web", "rule", "most"] : List Str).Nodup := by decide +kernel
  exact (s_cons (s_expr (e_call (ok_check_web T) rfl hr (by decide) tk (fun _ _ _ _ _ h => h) rfl (a_cons (e_name (i := 0) rfl (.inl rfl)) a_nil)))
    (s_cons (s_if (t_not (t_val (e_call (ok_is_one_of T) rfl hr (by decide) tk (fun _ _ _ _ _ h => h) rfl (a_cons (e_name (i := 1) rfl (.inl rfl)) (a_cons (e_glob rfl T.c_RULES) a_nil))))) (s_one s_never) s_nil)
    (s_cons (s_set (i := 2) nd rfl (.inl rfl) (e_if (t_cmp (op_eqD hr.units) k_eq (e_name (i := 1) rfl (.inl rfl)) (e_glob rfl T.c_LIKE) (nomark _)) (e_glob rfl T.c_MOST_LIKE) (e_glob rfl T.c_MOST_UNLIKE)))
    (s_one (s_if (PW.pt (w_and (t_in (u65 hr) rfl (e_name (i := 1) rfl (.inl rfl)) (e_tup (a_cons (e_glob rfl T.c_LIKE) (a_cons (e_glob rfl T.c_UNLIKE) a_nil))) rfl) (w_one_and (t_cmp op_gt k_gt (e_call (ok_size_by T) rfl hr (by decide) tk (fun _ _ _ _ _ h => h) rfl (a_cons (e_name (i := 0) rfl (.inl rfl)) (a_cons (e_name (i := 1) rfl (.inl rfl)) a_nil))) (e_name (i := 2) rfl (.inl rfl)) (nomark _))))) (s_one s_never) s_nil)))))
theorem ok_check_rule (T : Top w S mg base) : Cal P w S mg base 4 "check_rule" 2 m_check_rule := by
  obtain ⟨fd, F⟩ := T.fn_check_rule
  exact cal_of F (fnok_check_rule T F) T.g_check_rule (F.bindsN fun _ _ _ _ _ _ us hl => match us, hl with | [_, _], _ => rfl)
theorem fnok_read_marks (T : Top w S mg base) {a : Addr} {fd : FuncData} (F : FunD S.K "read_marks" "read_marks" (defArgs (top 71)) (defBody (top 71)) (defScope (top 71)) [] [] a fd) : FnOk P w S.K mg base (L2.CX P w) 9 a fd ["rows"] (spF S 1 m_read_marks) := by
  rw [m_read_marks_eq, fo_read_marks_2_eq, fb_read_marks_1_eq]
  refine def_ok (N := ["rows", "index", "rule", "names", "pairs", "told", "web"]) (ps := ["rows"]) F ⟨rfl, rfl, rfl, by decide +kernel, rfl, by decide +kernel, by decide +kernel⟩ fun cdv A outer s H E hr tk => ?_
  have nd : (["rows", "index", "rule", "names", "pairs", "told", "web"] : List Str).Nodup := by decide +kernel
  exact (s_cons (s_for (passes_of rfl) rfl (i_any rfl (e_call (ok_wrong_in_lines T) rfl hr (by decide) tk (fun _ _ _ _ _ h => h) rfl (a_cons (e_name (i := 0) rfl (.inl rfl)) a_nil))) (g_name (i := 1) nd rfl (.inl rfl)) (s_one s_never))
    (s_cons (s_asg (e_call (ok_told_by T) rfl hr (by decide) tk (fun _ _ _ _ _ h => h) rfl (a_cons (e_name (i := 0) rfl (.inl rfl)) a_nil)) (g_tup rfl (gs_cons (g_name (i := 2) nd rfl (.inl rfl)) (gs_cons (g_name (i := 3) nd rfl (.inl rfl)) (gs_cons (g_name (i := 4) nd rfl (.inl rfl)) (gs_cons (g_name (i := 5) nd rfl (.inl rfl)) gs_nil)))) rfl))
    (s_cons (s_set (i := 6) nd rfl (.inl rfl) (e_make (ci_Web T) rfl hr (by decide) rfl (a_cons (e_name (i := 3) rfl (.inl rfl)) (a_cons (e_name (i := 4) rfl (.inl rfl)) a_nil))))
    (s_cons (s_expr (e_call (ok_check_rule T) rfl hr (by decide) tk (fun _ _ _ _ _ h => h) rfl (a_cons (e_name (i := 6) rfl (.inl rfl)) (a_cons (e_name (i := 2) rfl (.inl rfl)) a_nil))))
    (s_one (s_ret (e_tup (a_cons (e_name (i := 6) rfl (.inl rfl)) (a_cons (e_name (i := 2) rfl (.inl rfl)) (a_cons (e_name (i := 5) rfl (.inl rfl)) a_nil))))))))))
theorem ok_read_marks (T : Top w S mg base) : Cal P w S mg base 9 "read_marks" 1 m_read_marks := by
  obtain ⟨fd, F⟩ := T.fn_read_marks
  exact cal_of F (fnok_read_marks T F) T.g_read_marks (F.bindsN fun _ _ _ _ _ _ us hl => match us, hl with | [_], _ => rfl)
theorem ok__law_same (T : Top w S mg base) : ∀ n, Cal P w S mg base (0 + n) "_law_same" 2 (m__law_same n)
  | 0 => by
    obtain ⟨fd, F⟩ := T.fn__law_same
    exact cal_of F (ps := ["told", "due"]) fnok_no T.g__law_same (F.bindsN fun _ _ _ _ _ _ us hl => match us, hl with | [_, _], _ => rfl)
  | n + 1 => by
    obtain ⟨fd, F⟩ := T.fn__law_same
    rw [m__law_same_eq, lc__law_same_1_eq]
    refine cal_of F (def_ok (N := ["told", "due", "k"]) (ps := ["told", "due"]) F ⟨rfl, rfl, rfl, by decide +kernel, rfl, by decide +kernel, by decide +kernel⟩ fun cdv A outer s H E hr tk => ?_) T.g__law_same (F.bindsN fun _ _ _ _ _ _ us hl => match us, hl with | [_, _], _ => rfl)
    have nd : (["told", "due", "k"] : List Str).Nodup := by decide +kernel
    exact (s_cons (s_if (t_val (e_isiT T.isf rfl rfl T.z_isinstance rfl T.z_tuple (by decide +kernel) (e_name (i := 1) rfl (.inr (.inl rfl))))) (s_cons (s_if (PW.pt (w_or (t_not (t_val (e_isiT T.isf rfl rfl T.z_isinstance rfl T.z_tuple (by decide +kernel) (e_name (i := 0) rfl (.inr (.inl rfl)))))) (w_one_or (t_cmp (op_neD hr.units) k_ne (e_callB call_len (k_len rfl) rfl T.z_len boot_len (e_name (i := 0) rfl (.inr (.inl rfl)))) (e_callB call_len (k_len rfl) rfl T.z_len boot_len (e_name (i := 1) rfl (.inr (.inl rfl)))) (nomark _))))) (s_one (s_ret e_bl)) s_nil)
    (s_one (s_ret (e_callB (cr_all rfl) (k_all rfl) rfl T.z_all PyProof.Rows.boot_all (e_lc (own := [("k", 2)]) rfl nd (i_rng1 rfl T.z_range (a_cons (e_callB call_len (k_len rfl) rfl T.z_len boot_len (e_name (i := 1) rfl (.inr (.inl rfl)))) a_nil)) (by kernel_rfl) (fun _ _ _ _ _ => (g_name (i := 2) nd rfl (by first | exact .inl rfl | exact .inr rfl))) (fun _ _ _ _ _ => c_nil) (fun _ _ _ _ _ => (e_call (ok__law_same T n) rfl hr (by first | decide | exact Nat.le_refl _ | exact Nat.le_trans (by decide) (Nat.le_add_right _ _)) LamX.takes0 (fun _ _ _ _ _ h => h) rfl (a_cons (e_ixA (u65 hr) rfl (e_name (i := 0) rfl (by first | exact .inl rfl | exact .inr (.inr rfl) | exact .inr (.inl rfl))) (e_name (i := 2) rfl (by first | exact .inl rfl | exact .inr (.inr rfl) | exact .inr (.inl rfl))) (fun _ _ => rfl)) (a_cons (e_ixA (u65 hr) rfl (e_name (i := 1) rfl (by first | exact .inl rfl | exact .inr (.inr rfl) | exact .inr (.inl rfl))) (e_name (i := 2) rfl (by first | exact .inl rfl | exact .inr (.inr rfl) | exact .inr (.inl rfl))) (fun _ _ => rfl)) a_nil))))))))) s_nil)
    (s_cons (s_if (t_isN (e_name (i := 1) rfl (.inr (.inl rfl)))) (s_one (s_ret (e_isN (e_name (i := 0) rfl (.inr (.inl rfl)))))) s_nil)
    (s_cons (s_if (t_val (e_isiT T.isf rfl rfl T.z_isinstance rfl T.z_bool (by decide +kernel) (e_name (i := 1) rfl (.inr (.inl rfl))))) (s_one (s_ret (e_and (e_isiT T.isf rfl rfl T.z_isinstance rfl T.z_bool (by decide +kernel) (e_name (i := 0) rfl (.inr (.inl rfl)))) (e_one (e_cmp (op_eqD hr.units) k_eq (e_name (i := 0) rfl (.inr (.inl rfl))) (e_name (i := 1) rfl (.inr (.inl rfl))) (nomark _)))))) s_nil)
    (s_cons (s_if (t_val (e_isiT T.isf rfl rfl T.z_isinstance rfl T.z_int (by decide +kernel) (e_name (i := 1) rfl (.inr (.inl rfl))))) (s_one (s_ret (e_and (e_isiT T.isf rfl rfl T.z_isinstance rfl T.z_int (by decide +kernel) (e_name (i := 0) rfl (.inr (.inl rfl)))) (e_and (e_not (e_isiT T.isf rfl rfl T.z_isinstance rfl T.z_bool (by decide +kernel) (e_name (i := 0) rfl (.inr (.inl rfl))))) (e_one (e_cmp (op_eqD hr.units) k_eq (e_name (i := 0) rfl (.inr (.inl rfl))) (e_name (i := 1) rfl (.inr (.inl rfl))) (nomark _))))))) s_nil)
    (s_cons (s_if (t_val (e_isiT T.isf rfl rfl T.z_isinstance rfl T.z_str (by decide +kernel) (e_name (i := 1) rfl (.inr (.inl rfl))))) (s_one (s_ret (e_and (e_isiT T.isf rfl rfl T.z_isinstance rfl T.z_str (by decide +kernel) (e_name (i := 0) rfl (.inr (.inl rfl)))) (e_one (e_cmp (op_eqD hr.units) k_eq (e_name (i := 0) rfl (.inr (.inl rfl))) (e_name (i := 1) rfl (.inr (.inl rfl))) (nomark _)))))) s_nil)
    (s_one (s_ret (e_cmp (op_eqD hr.units) k_eq (e_name (i := 0) rfl (.inr (.inl rfl))) (e_name (i := 1) rfl (.inr (.inl rfl))) (nomark _)))))))))
theorem fnok_is_whole (T : Top w S mg base) {a : Addr} {fd : FuncData} (F : FunD S.K "is_whole" "is_whole" (defArgs (top 13)) (defBody (top 13)) (defScope (top 13)) [] [] a fd) : FnOk P w S.K mg base (L2.CX P w) 1 a fd ["value"] (spF S 1 m_is_whole) := by
  rw [m_is_whole_eq]
  refine def_ok (N := ["value"]) (ps := ["value"]) F ⟨rfl, rfl, rfl, by decide +kernel, rfl, by decide +kernel, by decide +kernel⟩ fun cdv A outer s H E hr tk => ?_
  have nd : (["value"] : List Str).Nodup := by decide +kernel
  exact (s_one (s_ret (e_and (e_isiT T.isf rfl rfl T.z_isinstance rfl T.z_int (by decide +kernel) (e_name (i := 0) rfl (.inl rfl))) (e_one (e_not (e_isiT T.isf rfl rfl T.z_isinstance rfl T.z_bool (by decide +kernel) (e_name (i := 0) rfl (.inl rfl))))))))
theorem ok_is_whole (T : Top w S mg base) : Cal P w S mg base 1 "is_whole" 1 m_is_whole := by
  obtain ⟨fd, F⟩ := T.fn_is_whole
  exact cal_of F (fnok_is_whole T F) T.g_is_whole (F.bindsN fun _ _ _ _ _ _ us hl => match us, hl with | [_], _ => rfl)
theorem fnok_is_number (T : Top w S mg base) {a : Addr} {fd : FuncData} (F : FunD S.K "is_number" "is_number" (defArgs (top 40)) (defBody (top 40)) (defScope (top 40)) [] [] a fd) : FnOk P w S.K mg base (L2.CX P w) 2 a fd ["value"] (spF S 1 m_is_number) := by
  rw [m_is_number_eq]
  refine def_ok (N := ["value"]) (ps := ["value"]) F ⟨rfl, rfl, rfl, by decide +kernel, rfl, by decide +kernel, by decide +kernel⟩ fun cdv A outer s H E hr tk => ?_
  have nd : (["value"] : List Str).Nodup := by decide +kernel
  exact (s_one (s_ret (e_and (e_call (ok_is_whole T) rfl hr (by decide) tk (fun _ _ _ _ _ h => h) rfl (a_cons (e_name (i := 0) rfl (.inl rfl)) a_nil)) (e_one (e_cmp op_ge k_ge (e_name (i := 0) rfl (.inl rfl)) e_int (nomark _))))))
theorem ok_is_number (T : Top w S mg base) : Cal P w S mg base 2 "is_number" 1 m_is_number := by
  obtain ⟨fd, F⟩ := T.fn_is_number
  exact cal_of F (fnok_is_number T F) T.g_is_number (F.bindsN fun _ _ _ _ _ _ us hl => match us, hl with | [_], _ => rfl)
theorem dok_l2 (T : Top w S mg base) : DispOk P w S mg base 3 1 dp_l2 := fun d m v H0 mm e h => by
  unfold dp_l2 at e
  split at e
  · cases e
    exact lam_callr (N := ["each"]) (ps := ["each"]) (L := lam_2) (T.lam 2 _ rfl) (nscope_by (by decide +kernel)) (fun _ _ _ _ us hl => match us, hl with | [_], _ => rfl) (fun f cl c A outer s H E hr tk => by
      have nd : (["each"] : List Str).Nodup := by decide +kernel
      rw [lg_l2_eq]
      exact (e_or (e_isN (e_name (i := 0) rfl (.inl rfl))) (e_one (e_call (ok_is_number T) rfl hr (by decide) tk (fun _ _ _ _ _ h => h) rfl (a_cons (e_name (i := 0) rfl (.inl rfl)) a_nil))))) h
  · cases e
theorem dok_l3_l2 (T : Top w S mg base) : DispOk P w S mg base 4 2 dp_l3_l2 := fun d m v H0 mm e h => by
  unfold dp_l3_l2 at e
  split at e
  · cases e
    exact lam_callr (N := ["ahead", "each", "is_right"]) (ps := ["ahead", "each"]) (L := lam_3) (T.lam 3 _ rfl) (nscope_by (by decide +kernel)) (fun _ _ _ _ us hl => match us, hl with | [_, _], _ => rfl) (fun f cl c A outer s H E hr tk => by
      have nd : (["ahead", "each", "is_right"] : List Str).Nodup := by decide +kernel
      rw [lg_l3_l2_eq]
      exact (e_callS (dok_l2 T) rfl hr (by decide) tk (fun _ _ _ _ _ h => h) (i := 2) rfl (.inr (.inr rfl)) (a_cons (e_name (i := 1) rfl (.inl rfl)) a_nil))) h
  · cases e
theorem fnok_wrong_in_l3_l2 (T : Top w S mg base) {a : Addr} {fd : FuncData} (F : FunD S.K "wrong_in" "wrong_in" (defArgs (top 19)) (defBody (top 19)) (defScope (top 19)) [] [] a fd) : FnOk P w S.K mg base (L2.CX P w) 5 a fd ["value", "least", "most", "is_right"] (spF S 4 m_wrong_in_l3_l2) := by
  rw [m_wrong_in_l3_l2_eq, fo_wrong_in_l3_l2_2_eq, fb_wrong_in_l3_l2_1_eq]
  refine def_ok (N := ["value", "least", "most", "is_right", "index", "each"]) (ps := ["value", "least", "most", "is_right"]) F ⟨rfl, rfl, rfl, by decide +kernel, rfl, by decide +kernel, by decide +kernel⟩ fun cdv A outer s H E hr tk => ?_
  have nd : (["value", "least", "most", "is_right", "index", "each"] : List Str).Nodup := by decide +kernel
  exact (s_cons (s_if (PW.pt (w_or (t_not (t_val (e_isiT T.isf rfl rfl T.z_isinstance rfl T.z_tuple (by decide +kernel) (e_name (i := 0) rfl (.inl rfl))))) (w_one_or (t_lts hr.units0 rfl (e_callB call_len (k_len rfl) rfl T.z_len boot_len (e_name (i := 0) rfl (.inl rfl))) (e_name (i := 1) rfl (.inl rfl)) (nomark _))))) (s_one (s_ret (e_lst (a_cons e_non a_nil)))) s_nil)
    (s_cons (s_for (passes_of rfl) rfl (i_enm rfl rfl T.z_enumerate (a_cons (e_name (i := 0) rfl (.inl rfl)) a_nil)) (g_tup rfl (gs_cons (g_name (i := 4) nd rfl (.inl rfl)) (gs_cons (g_name (i := 5) nd rfl (.inl rfl)) gs_nil)) rfl) (s_one (s_if (PW.pt (w_or (t_cmp (op_eqD hr.units) k_eq (e_name (i := 4) rfl (.inl rfl)) (e_name (i := 2) rfl (.inl rfl)) (nomark _)) (w_one_or (t_not (t_val (e_callS (dok_l3_l2 T) rfl hr (by decide) tk (fun _ _ _ _ _ h => h) (i := 3) rfl (.inl rfl) (a_cons (e_sl rfl (e_name (i := 0) rfl (.inl rfl)) o_none (o_some (e_name (i := 4) rfl (.inl rfl)))) (a_cons (e_name (i := 5) rfl (.inl rfl)) a_nil)))))))) (s_one (s_ret (e_lst (a_cons (e_name (i := 4) rfl (.inl rfl)) a_nil)))) s_nil)))
    (s_one (s_ret (e_lst a_nil)))))
theorem ok_wrong_in_l3_l2 (T : Top w S mg base) : Cal P w S mg base 5 "wrong_in" 4 m_wrong_in_l3_l2 := by
  obtain ⟨fd, F⟩ := T.fn_wrong_in
  exact cal_of F (fnok_wrong_in_l3_l2 T F) T.g_wrong_in (F.bindsN fun _ _ _ _ _ _ us hl => match us, hl with | [_, _, _, _], _ => rfl)
theorem fnok_wrong_in_all_l2 (T : Top w S mg base) {fd : FuncData} (F : FunD S.K "wrong_in_all" "wrong_in_all" (defArgs (top 20)) (defBody (top 20)) (defScope (top 20)) [] [] (He.fAd S.K ("wrong_in_all", none)) fd) : FnOk P w S.K mg base (L2.CX P w) 6 (He.fAd S.K ("wrong_in_all", none)) fd ["value", "many", "is_right"] (spF S 3 m_wrong_in_all_l2) := by
  rw [m_wrong_in_all_l2_eq]
  refine def_okC (N := ["value", "many", "is_right"]) (ps := ["value", "many", "is_right"]) F ⟨rfl, rfl, rfl, by decide +kernel, rfl, by decide +kernel, by decide +kernel⟩ fun A outer s H E hr tk => ?_
  have nd : (["value", "many", "is_right"] : List Str).Nodup := by decide +kernel
  exact (s_one (s_ret (e_if (t_val (e_call (ok_is_tuple_of T) rfl hr (by decide) tk (fun _ _ _ _ _ h => h) rfl (a_cons (e_name (i := 0) rfl (.inl rfl)) (a_cons (e_name (i := 1) rfl (.inl rfl)) a_nil)))) (e_callM (js := [2]) (ok_wrong_in_l3_l2 T) rfl hr (by decide) rfl (T.lam 3 _ rfl) (a_consM (e_name (i := 0) rfl (.inl rfl)) (a_consM (e_name (i := 1) rfl (.inl rfl)) (a_consM (e_name (i := 1) rfl (.inl rfl)) (a_lam (L := lam_3) ⟨T.mk_wrong_in_all.1, rfl, T.mk_wrong_in_all.2.1, T.mk_wrong_in_all.2.2⟩ rfl rfl (by kernel_rfl))))) (by kernel_rfl) rfl (fun _ => rfl)) (e_lst (a_cons e_non a_nil)))))
theorem ok_wrong_in_all_l2 (T : Top w S mg base) : Cal P w S mg base 6 "wrong_in_all" 3 m_wrong_in_all_l2 := by
  obtain ⟨fd, F⟩ := T.fn_wrong_in_all
  exact cal_of F (fnok_wrong_in_all_l2 T F) T.g_wrong_in_all (F.bindsN fun _ _ _ _ _ _ us hl => match us, hl with | [_, _, _], _ => rfl)
theorem fnok_wrong_in_told (T : Top w S mg base) {fd : FuncData} (F : FunD S.K "wrong_in_told" "wrong_in_told" (defArgs (top 41)) (defBody (top 41)) (defScope (top 41)) [] [] (He.fAd S.K ("wrong_in_told", none)) fd) : FnOk P w S.K mg base (L2.CX P w) 7 (He.fAd S.K ("wrong_in_told", none)) fd ["many", "value"] (spF S 2 m_wrong_in_told) := by
  rw [m_wrong_in_told_eq]
  refine def_okC (N := ["many", "value"]) (ps := ["many", "value"]) F ⟨rfl, rfl, rfl, by decide +kernel, rfl, by decide +kernel, by decide +kernel⟩ fun A outer s H E hr tk => ?_
  have nd : (["many", "value"] : List Str).Nodup := by decide +kernel
  exact (s_one (s_ret (e_callM (js := []) (ok_wrong_in_all_l2 T) rfl hr (by decide) rfl (T.lam 2 _ rfl) (a_consM (e_name (i := 1) rfl (.inl rfl)) (a_consM (e_name (i := 0) rfl (.inl rfl)) (a_lam (L := lam_2) ⟨T.mk_wrong_in_told.1, rfl, T.mk_wrong_in_told.2.1, T.mk_wrong_in_told.2.2⟩ rfl rfl (by kernel_rfl)))) (by kernel_rfl) rfl (fun _ => rfl))))
theorem ok_wrong_in_told (T : Top w S mg base) : Cal P w S mg base 7 "wrong_in_told" 2 m_wrong_in_told := by
  obtain ⟨fd, F⟩ := T.fn_wrong_in_told
  exact cal_of F (fnok_wrong_in_told T F) T.g_wrong_in_told (F.bindsN fun _ _ _ _ _ _ us hl => match us, hl with | [_, _], _ => rfl)
theorem fnok_check_told (T : Top w S mg base) {a : Addr} {fd : FuncData} (F : FunD S.K "check_told" "check_told" (defArgs (top 49)) (defBody (top 49)) (defScope (top 49)) [] [] a fd) : FnOk P w S.K mg base (L2.CX P w) 8 a fd ["web", "rule", "told"] (spF S 3 m_check_told) := by
  rw [m_check_told_eq, fo_check_told_2_eq, fb_check_told_1_eq]
  refine def_ok (N := ["web", "rule", "told", "index"]) (ps := ["web", "rule", "told"]) F ⟨rfl, rfl, rfl, by decide +kernel, rfl, by decide +kernel, by decide +kernel⟩ fun cdv A outer s H E hr tk => ?_
  have nd : (["web", "rule", "told", "index"] : List Str).Nodup := by decide +kernel
  exact (s_cons (s_expr (e_call (ok_check_rule T) rfl hr (by decide) tk (fun _ _ _ _ _ h => h) rfl (a_cons (e_name (i := 0) rfl (.inl rfl)) (a_cons (e_name (i := 1) rfl (.inl rfl)) a_nil))))
    (s_one (s_for (passes_of rfl) rfl (i_any rfl (e_call (ok_wrong_in_told T) rfl hr (by decide) tk (fun _ _ _ _ _ h => h) rfl (a_cons (e_call (ok_size_by T) rfl hr (by decide) tk (fun _ _ _ _ _ h => h) rfl (a_cons (e_name (i := 0) rfl (.inl rfl)) (a_cons (e_name (i := 1) rfl (.inl rfl)) a_nil))) (a_cons (e_name (i := 2) rfl (.inl rfl)) a_nil)))) (g_name (i := 3) nd rfl (.inl rfl)) (s_one s_never))))
theorem ok_check_told (T : Top w S mg base) : Cal P w S mg base 8 "check_told" 3 m_check_told := by
  obtain ⟨fd, F⟩ := T.fn_check_told
  exact cal_of F (fnok_check_told T F) T.g_check_told (F.bindsN fun _ _ _ _ _ _ us hl => match us, hl with | [_, _, _], _ => rfl)
theorem fnok_mark_word (T : Top w S mg base) {a : Addr} {fd : FuncData} (F : FunD S.K "mark_word" "mark_word" (defArgs (top 67)) (defBody (top 67)) (defScope (top 67)) [] [] a fd) : FnOk P w S.K mg base (L2.CX P w) 1 a fd ["number"] (spF S 1 m_mark_word) := by
  rw [m_mark_word_eq]
  refine def_ok (N := ["number"]) (ps := ["number"]) F ⟨rfl, rfl, rfl, by decide +kernel, rfl, by decide +kernel, by decide +kernel⟩ fun cdv A outer s H E hr tk => ?_
  have nd : (["number"] : List Str).Nodup := by decide +kernel
  exact (s_one (s_ret (e_if (t_isN (e_name (i := 0) rfl (.inl rfl))) (e_glob rfl T.c_OPEN) (e_callT call_str_int k_strOf rfl T.z_str (by decide +kernel) (e_name (i := 0) rfl (.inl rfl))))))
theorem ok_mark_word (T : Top w S mg base) : Cal P w S mg base 1 "mark_word" 1 m_mark_word := by
  obtain ⟨fd, F⟩ := T.fn_mark_word
  exact cal_of F (fnok_mark_word T F) T.g_mark_word (F.bindsN fun _ _ _ _ _ _ us hl => match us, hl with | [_], _ => rfl)
theorem fnok_rows_by (T : Top w S mg base) {a : Addr} {fd : FuncData} (F : FunD S.K "rows_by" "rows_by" (defArgs (top 68)) (defBody (top 68)) (defScope (top 68)) [] [] a fd) : FnOk P w S.K mg base (L2.CX P w) 3 a fd ["web", "rule", "told"] (spF S 3 m_rows_by) := by
  rw [m_rows_by_eq, lc_rows_by_4_eq, lc_rows_by_3_eq, lc_rows_by_2_eq, lc_rows_by_1_eq]
  refine def_ok (N := ["web", "rule", "told", "heads", "name", "one", "other", "words", "marked", "at", "word", "marks", "head"]) (ps := ["web", "rule", "told"]) F ⟨rfl, rfl, rfl, by decide +kernel, rfl, by decide +kernel, by decide +kernel⟩ fun cdv A outer s H E hr tk => ?_
  have nd : (["web", "rule", "told", "heads", "name", "one", "other", "words", "marked", "at", "word", "marks", "head"] : List Str).Nodup := by decide +kernel
  exact (s_cons (s_set (i := 3) nd rfl (.inl rfl) (e_adds rfl (e_lc (own := [("name", 4)]) rfl nd (i_any rfl (e_prop rfl (cp_Web_places T) hr (by decide) (e_name (i := 0) rfl (.inl rfl)))) (by kernel_rfl) (fun _ _ _ _ _ => (g_name (i := 4) nd rfl (by first | exact .inl rfl | exact .inr rfl))) (fun _ _ _ _ _ => c_nil) (fun _ _ _ _ _ => (e_joined (j_cons (e_fmt (e_glob rfl T.c_PLACE)) (j_cons e_str (j_cons (e_fmt (e_name (i := 4) rfl (by first | exact .inl rfl | exact .inr (.inr rfl) | exact .inr (.inl rfl)))) j_nil)))))) (e_lc (own := [("one", 5), ("other", 6)]) rfl nd (i_any rfl (e_prop rfl (cp_Web_ties T) hr (by decide) (e_name (i := 0) rfl (.inl rfl)))) (by kernel_rfl) (fun _ _ _ _ _ => (g_tup rfl (gs_cons (g_name (i := 5) nd rfl (by first | exact .inl rfl | exact .inr rfl)) (gs_cons (g_name (i := 6) nd rfl (by first | exact .inl rfl | exact .inr rfl)) gs_nil)) rfl)) (fun _ _ _ _ _ => c_nil) (fun _ _ _ _ _ => (e_joined (j_cons (e_fmt (e_glob rfl T.c_TIE)) (j_cons e_str (j_cons (e_fmt (e_name (i := 5) rfl (by first | exact .inl rfl | exact .inr (.inr rfl) | exact .inr (.inl rfl)))) (j_cons e_str (j_cons (e_fmt (e_name (i := 6) rfl (by first | exact .inl rfl | exact .inr (.inr rfl) | exact .inr (.inl rfl)))) j_nil))))))))))
    (s_cons (s_set (i := 7) nd rfl (.inl rfl) (e_adds rfl (e_muls rfl (e_lst (a_cons (e_glob rfl T.c_PLACE) a_nil)) (e_callB call_len (k_len rfl) rfl T.z_len boot_len (e_prop rfl (cp_Web_places T) hr (by decide) (e_name (i := 0) rfl (.inl rfl))))) (e_muls rfl (e_lst (a_cons (e_glob rfl T.c_TIE) a_nil)) (e_callB call_len (k_len rfl) rfl T.z_len boot_len (e_prop rfl (cp_Web_ties T) hr (by decide) (e_name (i := 0) rfl (.inl rfl)))))))
    (s_cons (s_setLc (i := 8) (own := [("at", 9), ("word", 10)]) rfl nd rfl rfl (sw_true rfl rfl rfl (by kernel_rfl)) (i_enm rfl rfl T.z_enumerate (a_cons (e_name (i := 7) rfl (.inl rfl)) a_nil)) (by kernel_rfl) (fun _ _ _ _ _ => (g_tup rfl (gs_cons (g_name (i := 9) nd rfl (by first | exact .inl rfl | exact .inr rfl)) (gs_cons (g_name (i := 10) nd rfl (by first | exact .inl rfl | exact .inr rfl)) gs_nil)) rfl)) (fun _ _ _ _ _ => (c_one (t_in (u65 hr) rfl (e_name (i := 10) rfl (by first | exact .inl rfl | exact .inr (.inr rfl) | exact .inr (.inl rfl))) (e_call (ok_marked_words T) rfl hr (by decide) LamX.takes0 (fun _ _ _ _ _ h => h) rfl (a_cons (e_name (i := 1) rfl (by first | exact .inl rfl | exact .inr (.inr rfl) | exact .inr (.inl rfl))) a_nil)) rfl))) (fun _ _ _ _ _ => (e_name (i := 9) rfl (by first | exact .inl rfl | exact .inr (.inr rfl) | exact .inr (.inl rfl)))))
    (s_cons (s_set (i := 11) nd rfl (.inr rfl) (e_dictzip rfl rfl T.z_dict rfl T.z_zip rfl (a_cons (e_name (i := 8) rfl (.inl rfl)) (a_cons (e_name (i := 2) rfl (.inl rfl)) a_nil))))
    (s_one (s_ret (e_tup (a_cons (e_joined (j_cons (e_fmt (e_glob rfl T.c_RULE)) (j_cons e_str (j_cons (e_fmt (e_name (i := 1) rfl (.inr (.inl rfl)))) j_nil)))) (a_star rfl (e_lc (own := [("at", 9), ("head", 12)]) rfl nd (i_enm rfl rfl T.z_enumerate (a_cons (e_name (i := 3) rfl (.inl rfl)) a_nil)) (by kernel_rfl) (fun _ _ _ _ _ => (g_tup rfl (gs_cons (g_name (i := 9) nd rfl (by first | exact .inl rfl | exact .inr rfl)) (gs_cons (g_name (i := 12) nd rfl (by first | exact .inl rfl | exact .inr rfl)) gs_nil)) rfl)) (fun _ _ _ _ _ => c_nil) (fun _ _ _ _ _ => (e_if (t_in (u65 hr) rfl (e_name (i := 9) rfl (by first | exact .inl rfl | exact .inr (.inr rfl) | exact .inr (.inl rfl))) (e_name (i := 11) rfl (by first | exact .inl rfl | exact .inr (.inr rfl) | exact .inr (.inl rfl))) rfl) (e_joined (j_cons (e_fmt (e_name (i := 12) rfl (by first | exact .inl rfl | exact .inr (.inr rfl) | exact .inr (.inl rfl)))) (j_cons e_str (j_cons (e_fmt (e_call (ok_mark_word T) rfl hr (by decide) LamX.takes0 (fun _ _ _ _ _ h => h) rfl (a_cons (e_ixA (u65 hr) rfl (e_name (i := 11) rfl (by first | exact .inl rfl | exact .inr (.inr rfl) | exact .inr (.inl rfl))) (e_name (i := 9) rfl (by first | exact .inl rfl | exact .inr (.inr rfl) | exact .inr (.inl rfl))) (fun _ _ => rfl)) a_nil))) j_nil)))) (e_name (i := 12) rfl (by first | exact .inl rfl | exact .inr (.inr rfl) | exact .inr (.inl rfl)))))) a_nil)))))))))
theorem ok_rows_by (T : Top w S mg base) : Cal P w S mg base 3 "rows_by" 3 m_rows_by := by
  obtain ⟨fd, F⟩ := T.fn_rows_by
  exact cal_of F (fnok_rows_by T F) T.g_rows_by (F.bindsN fun _ _ _ _ _ _ us hl => match us, hl with | [_, _, _], _ => rfl)
theorem fnok_mark_rows (T : Top w S mg base) {a : Addr} {fd : FuncData} (F : FunD S.K "mark_rows" "mark_rows" (defArgs (top 70)) (defBody (top 70)) (defScope (top 70)) [] [] a fd) : FnOk P w S.K mg base (L2.CX P w) 9 a fd ["web", "rule", "told"] (spF S 3 m_mark_rows) := by
  rw [m_mark_rows_eq]
  refine def_ok (N := ["web", "rule", "told"]) (ps := ["web", "rule", "told"]) F ⟨rfl, rfl, rfl, by decide +kernel, rfl, by decide +kernel, by decide +kernel⟩ fun cdv A outer s H E hr tk => ?_
  have nd : (["web", "rule", "told"] : List Str).Nodup := by decide +kernel
  exact (s_cons (s_expr (e_call (ok_check_told T) rfl hr (by decide) tk (fun _ _ _ _ _ h => h) rfl (a_cons (e_name (i := 0) rfl (.inl rfl)) (a_cons (e_name (i := 1) rfl (.inl rfl)) (a_cons (e_name (i := 2) rfl (.inl rfl)) a_nil)))))
    (s_one (s_ret (e_call (ok_rows_by T) rfl hr (by decide) tk (fun _ _ _ _ _ h => h) rfl (a_cons (e_name (i := 0) rfl (.inl rfl)) (a_cons (e_name (i := 1) rfl (.inl rfl)) (a_cons (e_name (i := 2) rfl (.inl rfl)) a_nil)))))))
theorem ok_mark_rows (T : Top w S mg base) : Cal P w S mg base 9 "mark_rows" 3 m_mark_rows := by
  obtain ⟨fd, F⟩ := T.fn_mark_rows
  exact cal_of F (fnok_mark_rows T F) T.g_mark_rows (F.bindsN fun _ _ _ _ _ _ us hl => match us, hl with | [_, _, _], _ => rfl)
theorem calk_mark_rows_0_told_rule_web (T : Top w S mg base) : CalK P w S mg base 9 "mark_rows" 0 ["told", "rule", "web"] [2, 1, 0] 3 m_mark_rows := by
  obtain ⟨fd, F⟩ := T.fn_mark_rows
  obtain ⟨f2, fd2, ps2, ok2, h2, _⟩ := (ok_mark_rows (P := P) (w := w) (S := S) (mg := mg) (base := base) T).ex
  exact calk_of F (fnok_mark_rows T F) T.g_mark_rows (kbn_of F fun _ _ _ _ _ _ us ws l1 l2 => match us, l1, ws, l2 with | [], _, [_, _, _], _ => rfl)
theorem fnok_Web_parts (T : Top w S mg base) {a : Addr} {fd : FuncData} (F : FunD S.K "parts" "Web.parts" (defArgs (topM 43 3)) (defBody (topM 43 3)) (defScope (topM 43 3)) [] [] a fd) : FnOk P w S.K mg base (L2.CX P w) 1 a fd ["self"] (spF S 1 m_Web_parts) := by
  rw [m_Web_parts_eq]
  refine def_ok (N := ["self"]) (ps := ["self"]) F ⟨rfl, rfl, rfl, by decide +kernel, rfl, by decide +kernel, by decide +kernel⟩ fun cdv A outer s H E hr tk => ?_
  have nd : (["self"] : List Str).Nodup := by decide +kernel
  exact (s_one (s_ret (e_fld rfl T.cf_Web_all_told (e_name (i := 0) rfl (.inl rfl)))))
theorem cp_Web_parts (T : Top w S mg base) : CP P w S mg base 1 "Web" "parts" m_Web_parts := by
  obtain ⟨p, g, fd, hp, F⟩ := T.pp_Web_parts
  exact ⟨T.cls_Web, p, g, fd, ["self"], hp, fnok_Web_parts T F, F.bindsN fun _ _ _ _ _ _ us hl => match us, hl with | [_], _ => rfl⟩
theorem fnok_Web___eq__ (T : Top w S mg base) {a : Addr} {fd : FuncData} (F : FunD S.K "__eq__" "Web.__eq__" (defArgs (topM 43 4)) (defBody (topM 43 4)) (defScope (topM 43 4)) [] [] a fd) : FnOk P w S.K mg base (L2.CX P w) 3 a fd ["self", "other"] (spF S 2 m_Web___eq__) := by
  rw [m_Web___eq___eq]
  refine def_ok (N := ["self", "other"]) (ps := ["self", "other"]) F ⟨rfl, rfl, rfl, by decide +kernel, rfl, by decide +kernel, by decide +kernel⟩ fun cdv A outer s H E hr tk => ?_
  have nd : (["self", "other"] : List Str).Nodup := by decide +kernel
  exact (s_one (s_ret (e_and (e_isiC T.isf rfl rfl T.z_isinstance rfl T.g_Web (e_name (i := 1) rfl (.inl rfl))) (e_one (e_cmp (op_eqD hr.units) k_eq (e_prop rfl (cp_Web_parts T) hr (by decide) (e_name (i := 0) rfl (.inl rfl))) (e_prop rfl (cp_Web_parts T) hr (by decide) (e_name (i := 1) rfl (.inl rfl))) (nomark _))))))
theorem cm_Web___eq__ (T : Top w S mg base) : CM P w S mg base 3 "Web" "__eq__" 2 m_Web___eq__ := by
  obtain ⟨fd, F⟩ := T.fn_Web___eq__
  exact ⟨T.cls_Web, _, fd, ["self", "other"], T.meth_Web___eq__, fnok_Web___eq__ T F, F.bindsN fun _ _ _ _ _ _ us hl => match us, hl with | [_, _], _ => rfl⟩
theorem calk_read_marks_0_rows (T : Top w S mg base) : CalK P w S mg base 9 "read_marks" 0 ["rows"] [0] 1 m_read_marks := by
  obtain ⟨fd, F⟩ := T.fn_read_marks
  obtain ⟨f2, fd2, ps2, ok2, h2, _⟩ := (ok_read_marks (P := P) (w := w) (S := S) (mg := mg) (base := base) T).ex
  exact calk_of F (fnok_read_marks T F) T.g_read_marks (kbn_of F fun _ _ _ _ _ _ us ws l1 l2 => match us, l1, ws, l2 with | [], _, [_], _ => rfl)
theorem fnok__law_right (T : Top w S mg base) {a : Addr} {fd : FuncData} (F : FunD S.K "_law_right" "_law_right" (defArgs (top 83)) (defBody (top 83)) (defScope (top 83)) [] [] a fd) : FnOk P w S.K mg base (L2.CX P w) 10 a fd ["bowl"] (spF S 1 m__law_right) := by
  rw [m__law_right_eq, fo__law_right_4_eq, fb__law_right_3_eq, lc__law_right_2_eq, lc__law_right_1_eq]
  refine def_ok (N := ["bowl", "rule", "web", "size", "made", "told", "k", "other", "rows", "back"]) (ps := ["bowl"]) F ⟨rfl, rfl, rfl, by decide +kernel, rfl, by decide +kernel, by decide +kernel⟩ fun cdv A outer s H E hr tk => ?_
  have nd : (["bowl", "rule", "web", "size", "made", "told", "k", "other", "rows", "back"] : List Str).Nodup := by decide +kernel
  exact (s_cons (s_for (passes_of rfl) rfl (i_any rfl (e_tup (a_cons e_str (a_cons e_str (a_cons e_str (a_cons e_str (a_cons e_str (a_cons e_str (a_cons e_str (a_cons e_str (a_cons e_str a_nil))))))))))) (g_name (i := 1) nd rfl (.inl rfl)) (s_cons (s_set (i := 2) nd rfl (.inl rfl) (e_call (ok__law_web T) rfl hr (by decide) tk (fun _ _ _ _ _ h => h) rfl (a_cons (e_name (i := 0) rfl (.inr (.inl rfl))) (a_cons e_int a_nil))))
    (s_cons (s_par2 (i := 3) (j := 4) rfl nd rfl rfl (by decide) rfl rfl (v_cons (e_call (ok__law_size T) rfl hr (by decide) tk (fun _ _ _ _ _ h => h) rfl (a_cons (e_name (i := 2) rfl (.inl rfl)) (a_cons (e_name (i := 1) rfl (.inl rfl)) a_nil))) (v_cons (e_call (ok__law_made T) rfl hr (by decide) tk (fun _ _ _ _ _ h => h) rfl (a_cons (e_name (i := 2) rfl (.inl rfl)) a_nil)) v_nil)) (by kernel_rfl))
    (s_cons (s_set (i := 5) nd rfl (.inl rfl) (e_callT call_tuple_of (k_tuple rfl) rfl T.z_tuple (by decide +kernel) (e_lc (own := [("k", 6)]) rfl nd (i_rng1 rfl T.z_range (a_cons (e_name (i := 3) rfl (.inl rfl)) a_nil)) (by kernel_rfl) (fun _ _ _ _ _ => (g_name (i := 6) nd rfl (by first | exact .inl rfl | exact .inr rfl))) (fun _ _ _ _ _ => c_nil) (fun _ _ _ _ _ => (e_call (ok__law_of T) rfl hr (by decide) LamX.takes0 (fun _ _ _ _ _ h => h) rfl (a_cons (e_name (i := 0) rfl (by first | exact .inl rfl | exact .inr (.inr rfl) | exact .inr (.inl rfl))) (a_cons (e_tup (a_cons e_non (a_cons (e_call (ok__law_draw T) rfl hr (by decide) LamX.takes0 (fun _ _ _ _ _ h => h) rfl (a_cons (e_name (i := 0) rfl (by first | exact .inl rfl | exact .inr (.inr rfl) | exact .inr (.inl rfl))) (a_cons e_int a_nil))) (a_cons e_int a_nil)))) a_nil)))))))
    (s_cons (s_set (i := 7) nd rfl (.inl rfl) (e_callT call_tuple_of (k_tuple rfl) rfl T.z_tuple (by decide +kernel) (e_lc (own := [("k", 6)]) rfl nd (i_rng1 rfl T.z_range (a_cons (e_name (i := 3) rfl (.inl rfl)) a_nil)) (by kernel_rfl) (fun _ _ _ _ _ => (g_name (i := 6) nd rfl (by first | exact .inl rfl | exact .inr rfl))) (fun _ _ _ _ _ => c_nil) (fun _ _ _ _ _ => (e_call (ok__law_of T) rfl hr (by decide) LamX.takes0 (fun _ _ _ _ _ h => h) rfl (a_cons (e_name (i := 0) rfl (by first | exact .inl rfl | exact .inr (.inr rfl) | exact .inr (.inl rfl))) (a_cons (e_tup (a_cons e_non (a_cons (e_call (ok__law_draw T) rfl hr (by decide) LamX.takes0 (fun _ _ _ _ _ h => h) rfl (a_cons (e_name (i := 0) rfl (by first | exact .inl rfl | exact .inr (.inr rfl) | exact .inr (.inl rfl))) (a_cons e_int a_nil))) (a_cons e_int a_nil)))) a_nil)))))))
    (s_cons (s_set (i := 8) nd rfl (.inl rfl) (e_call (ok__law_text T) rfl hr (by decide) tk (fun _ _ _ _ _ h => h) rfl (a_cons (e_name (i := 2) rfl (.inl rfl)) (a_cons (e_name (i := 1) rfl (.inl rfl)) (a_cons (e_name (i := 5) rfl (.inl rfl)) a_nil)))))
    (s_cons (s_set (i := 9) nd rfl (.inl rfl) (e_call (ok_read_marks T) rfl hr (by decide) tk (fun _ _ _ _ _ h => h) rfl (a_cons (e_name (i := 8) rfl (.inl rfl)) a_nil)))
    (s_cons (s_if (t_not (t_val (e_call (ok__law_same T 6) rfl hr (by decide) tk (fun _ _ _ _ _ h => h) rfl (a_cons (e_tup (a_cons (e_call (ok_mark_rows T) rfl hr (by decide) tk (fun _ _ _ _ _ h => h) rfl (a_cons (e_name (i := 4) rfl (.inl rfl)) (a_cons (e_name (i := 1) rfl (.inl rfl)) (a_cons (e_name (i := 5) rfl (.inl rfl)) a_nil)))) (a_cons (e_callK0 (calk_mark_rows_0_told_rule_web T) rfl hr (by decide) tk (fun _ _ _ _ _ h => h) rfl (kw_cons (e_name (i := 5) rfl (.inl rfl)) (kw_cons (e_name (i := 1) rfl (.inl rfl)) (kw_cons (e_name (i := 4) rfl (.inl rfl)) kw_nil)))) a_nil))) (a_cons (e_tup (a_cons (e_name (i := 8) rfl (.inl rfl)) (a_cons (e_name (i := 8) rfl (.inl rfl)) a_nil))) a_nil))))) (s_one (s_ret e_bl)) s_nil)
    (s_cons (s_if (t_not (t_val (e_call (ok__law_same T 6) rfl hr (by decide) tk (fun _ _ _ _ _ h => h) rfl (a_cons (e_tup (a_cons (e_prop rfl (cp_Web_parts T) hr (by decide) (e_ix rfl (e_name (i := 9) rfl (.inl rfl)) e_int (fun _ _ => rfl))) (a_cons (e_sl rfl (e_name (i := 9) rfl (.inl rfl)) (o_some e_int) o_none) (a_cons (e_eqO rfl (cm_Web___eq__ T) hr (by decide) (e_callK0 (calk_read_marks_0_rows T) rfl hr (by decide) tk (fun _ _ _ _ _ h => h) rfl (kw_cons (e_name (i := 8) rfl (.inl rfl)) kw_nil)) (e_tup (a_cons (e_name (i := 4) rfl (.inl rfl)) (a_cons (e_name (i := 1) rfl (.inl rfl)) (a_cons (e_name (i := 5) rfl (.inl rfl)) a_nil)))) (nomark _)) a_nil)))) (a_cons (e_tup (a_cons (e_name (i := 2) rfl (.inl rfl)) (a_cons (e_tup (a_cons (e_name (i := 1) rfl (.inl rfl)) (a_cons (e_name (i := 5) rfl (.inl rfl)) a_nil))) (a_cons e_bl a_nil)))) a_nil))))) (s_one (s_ret e_bl)) s_nil)
    (s_one (s_if (t_not (t_val (e_call (ok__law_same T 6) rfl hr (by decide) tk (fun _ _ _ _ _ h => h) rfl (a_cons (e_tup (a_cons (e_cmp (op_eqD hr.units) k_eq (e_call (ok_mark_rows T) rfl hr (by decide) tk (fun _ _ _ _ _ h => h) rfl (a_cons (e_name (i := 4) rfl (.inl rfl)) (a_cons (e_name (i := 1) rfl (.inl rfl)) (a_cons (e_name (i := 7) rfl (.inl rfl)) a_nil)))) (e_name (i := 8) rfl (.inl rfl)) (nomark _)) (a_cons (e_ix rfl (e_call (ok_read_marks T) rfl hr (by decide) tk (fun _ _ _ _ _ h => h) rfl (a_cons (e_call (ok_mark_rows T) rfl hr (by decide) tk (fun _ _ _ _ _ h => h) rfl (a_cons (e_name (i := 4) rfl (.inl rfl)) (a_cons (e_name (i := 1) rfl (.inl rfl)) (a_cons (e_name (i := 7) rfl (.inl rfl)) a_nil)))) a_nil)) e_int (fun _ _ => rfl)) a_nil))) (a_cons (e_tup (a_cons (e_cmp (op_eqD hr.units) k_eq (e_name (i := 7) rfl (.inl rfl)) (e_name (i := 5) rfl (.inl rfl)) (nomark _)) (a_cons (e_name (i := 7) rfl (.inl rfl)) a_nil))) a_nil))))) (s_one (s_ret e_bl)) s_nil)))))))))))
    (s_one (s_ret e_bl)))
theorem ok__law_right (T : Top w S mg base) : Cal P w S mg base 10 "_law_right" 1 m__law_right := by
  obtain ⟨fd, F⟩ := T.fn__law_right
  exact cal_of F (fnok__law_right T F) T.g__law_right (F.bindsN fun _ _ _ _ _ _ us hl => match us, hl with | [_], _ => rfl)
theorem fnok__law_bowl (T : Top w S mg base) {a : Addr} {fd : FuncData} (F : FunD S.K "_law_bowl" "_law_bowl" (defArgs (top 73)) (defBody (top 73)) (defScope (top 73)) [] [] a fd) : FnOk P w S.K mg base (L2.CX P w) 1 a fd ["script", "lap"] (spF S 2 m__law_bowl) := by
  rw [m__law_bowl_eq, fo__law_bowl_2_eq, fb__law_bowl_1_eq]
  refine def_ok (N := ["script", "lap", "stir", "cell", "own"]) (ps := ["script", "lap"]) F ⟨rfl, rfl, rfl, by decide +kernel, rfl, by decide +kernel, by decide +kernel⟩ fun cdv A outer s H E hr tk => ?_
  have nd : (["script", "lap", "stir", "cell", "own"] : List Str).Nodup := by decide +kernel
  exact (s_cons (s_set (i := 2) nd rfl (.inl rfl) (e_adds rfl e_int (e_muls rfl e_int (e_name (i := 1) rfl (.inl rfl)))))
    (s_cons (s_for (passes_of rfl) rfl (i_any rfl (e_sl rfl (e_name (i := 0) rfl (.inl rfl)) o_none (o_some e_int))) (g_name (i := 3) nd rfl (.inl rfl)) (s_one (s_set (i := 2) nd rfl (.inl rfl) (e_mod (e_callT call_ints k_intOf rfl T.z_int (by decide +kernel) (e_adds rfl (e_adds rfl (e_muls rfl (e_name (i := 2) rfl (.inl rfl)) e_int) (e_muls rfl (e_mod (e_callT call_ints k_intOf rfl T.z_int (by decide +kernel) (e_name (i := 3) rfl (.inl rfl))) e_int) e_int)) e_int)) e_int))))
    (s_cons (s_set (i := 4) nd rfl (.inl rfl) (e_if (t_lts hr.units0 rfl (e_name (i := 1) rfl (.inl rfl)) (e_callB call_len (k_len rfl) rfl T.z_len boot_len (e_name (i := 0) rfl (.inl rfl))) (nomark _)) (e_callT call_ints k_intOf rfl T.z_int (by decide +kernel) (e_ix rfl (e_name (i := 0) rfl (.inl rfl)) (e_name (i := 1) rfl (.inl rfl)) (fun _ _ => rfl))) e_int))
    (s_cons (s_set (i := 2) nd rfl (.inl rfl) (e_mod (e_callT call_ints k_intOf rfl T.z_int (by decide +kernel) (e_adds rfl (e_adds rfl (e_muls rfl (e_name (i := 2) rfl (.inl rfl)) e_int) (e_muls rfl (e_mod (e_name (i := 4) rfl (.inl rfl)) e_int) e_int)) e_int)) e_int))
    (s_one (s_ret (e_ref (e_lst (a_cons (e_if (PW.pt (w_or (t_lts hr.units0 rfl (e_name (i := 4) rfl (.inl rfl)) e_int (nomark _)) (w_one_or (t_cmp op_ge k_ge (e_name (i := 4) rfl (.inl rfl)) (e_pow e_int e_int) (nomark _))))) (e_callB call_abs k_abs rfl T.z_abs PyProof.Rows.boot_abs (e_name (i := 4) rfl (.inl rfl))) e_int) (a_cons (e_name (i := 2) rfl (.inl rfl)) (a_cons e_int a_nil)))))))))))
theorem ok__law_bowl (T : Top w S mg base) : Cal P w S mg base 1 "_law_bowl" 2 m__law_bowl := by
  obtain ⟨fd, F⟩ := T.fn__law_bowl
  exact cal_of F (fnok__law_bowl T F) T.g__law_bowl (F.bindsN fun _ _ _ _ _ _ us hl => match us, hl with | [_, _], _ => rfl)
theorem fnok_law (T : Top w S mg base) {a : Addr} {fd : FuncData} (F : FunD S.K "law" "law" (defArgs (top 84)) (defBody (top 84)) (defScope (top 84)) [] [] a fd) : FnOk P w S.K mg base (L2.CX P w) 11 a fd ["script"] (spF S 1 m_law) := by
  rw [m_law_eq, lc_law_1_eq]
  refine def_ok (N := ["script", "lap"]) (ps := ["script"]) F ⟨rfl, rfl, rfl, by decide +kernel, rfl, by decide +kernel, by decide +kernel⟩ fun cdv A outer s H E hr tk => ?_
  have nd : (["script", "lap"] : List Str).Nodup := by decide +kernel
  exact (s_one (s_ret (e_callB (cr_all rfl) (k_all rfl) rfl T.z_all PyProof.Rows.boot_all (e_lc (own := [("lap", 1)]) rfl nd (i_rng1 rfl T.z_range (a_cons (e_callB2 (call_max2 rfl) k_max rfl T.z_max (by decide +kernel) e_int (e_callB2 (call_min2 rfl) k_min rfl T.z_min (by decide +kernel) (e_callB call_len (k_len rfl) rfl T.z_len boot_len (e_name (i := 0) rfl (.inr (.inl rfl)))) e_int)) a_nil)) (by kernel_rfl) (fun _ _ _ _ _ => (g_name (i := 1) nd rfl (by first | exact .inl rfl | exact .inr rfl))) (fun _ _ _ _ _ => c_nil) (fun _ _ _ _ _ => (e_call (ok__law_right T) rfl hr (by decide) LamX.takes0 (fun _ _ _ _ _ h => h) rfl (a_cons (e_call (ok__law_bowl T) rfl hr (by decide) LamX.takes0 (fun _ _ _ _ _ h => h) rfl (a_cons (e_name (i := 0) rfl (by first | exact .inl rfl | exact .inr (.inr rfl) | exact .inr (.inl rfl))) (a_cons (e_name (i := 1) rfl (by first | exact .inl rfl | exact .inr (.inr rfl) | exact .inr (.inl rfl))) a_nil))) a_nil)))))))
theorem ok_law (T : Top w S mg base) : Cal P w S mg base 11 "law" 1 m_law := by
  obtain ⟨fd, F⟩ := T.fn_law
  exact cal_of F (fnok_law T F) T.g_law (F.bindsN fun _ _ _ _ _ _ us hl => match us, hl with | [_], _ => rfl)
end Nk83
set_option maxRecDepth 100000
set_option maxHeartbeats 4000000
namespace Nk83
open PySem PySem.Spec L2 NdefX DL
open PyProof.Rows (envOfC)
/-! ### the head -/
def fa : List He.Fa := ([.free "len",
  .free "min",
  .free "max",
  .free "range",
  .free "divmod",
  .free "int",
  .glo "_law_draw",
  .glo "_law_of",
  .glo "_law_own",
  .free "sorted",
  .free "tuple",
  .glo "_law_names",
  .glo "_law_web",
  .free "isinstance",
  .free "str",
  .free "all",
  .glo "is_word",
  .glo "is_name",
  .glo "are_below",
  .free "enumerate"] : List He.Fa) ++ ([.glo "wrong_in",
  .glo "wrong_in_places",
  .glo "is_tuple_of",
  .glo "is_pair",
  .glo "is_one_of",
  .glo "is_tie",
  .glo "wrong_in_ties",
  .cls "Web",
  .noat "Web" "all_told",
  .glo "Web",
  .mkr "Web",
  .glo "_law_made",
  .glo "_law_size",
  .glo "_law_text",
  .glo "words_of",
  .glo "is_rule_row",
  .glo "marked_words",
  .glo "is_figures",
  .glo "is_row",
  .glo "wrong_in_lines"] : List He.Fa) ++ ([.glo "mark_in",
  .glo "told_by",
  .glo "check_web",
  .glo "size_by",
  .glo "check_rule",
  .glo "read_marks",
  .free "bool",
  .glo "_law_same",
  .glo "is_whole",
  .glo "is_number",
  .glo "wrong_in_all",
  .glo "wrong_in_told",
  .glo "check_told",
  .free "dict",
  .free "zip",
  .glo "mark_word",
  .glo "rows_by",
  .glo "mark_rows",
  .meth "Web" "__eq__",
  .glo "_law_right"] : List He.Fa) ++ ([.free "abs",
  .glo "_law_bowl",
  .glo "law"] : List He.Fa)
def fn : List He.DefD := ([⟨("_law_draw", none), "_law_draw", "_law_draw", defArgs (top 74), defBody (top 74), defScope (top 74), [], []⟩,
  ⟨("_law_of", none), "_law_of", "_law_of", defArgs (top 75), defBody (top 75), defScope (top 75), [], []⟩,
  ⟨("_law_own", none), "_law_own", "_law_own", defArgs (top 77), defBody (top 77), defScope (top 77), [], []⟩,
  ⟨("_law_names", none), "_law_names", "_law_names", defArgs (top 78), defBody (top 78), defScope (top 78), [], []⟩,
  ⟨("_law_web", none), "_law_web", "_law_web", defArgs (top 79), defBody (top 79), defScope (top 79), [], []⟩,
  ⟨("is_word", none), "is_word", "is_word", defArgs (top 15), defBody (top 15), defScope (top 15), [], []⟩,
  ⟨("is_name", none), "is_name", "is_name", defArgs (top 16), defBody (top 16), defScope (top 16), [], []⟩,
  ⟨("are_below", none), "are_below", "are_below", defArgs (top 21), defBody (top 21), defScope (top 21), [], []⟩,
  ⟨("wrong_in", none), "wrong_in", "wrong_in", defArgs (top 19), defBody (top 19), defScope (top 19), [], []⟩,
  ⟨("wrong_in_places", none), "wrong_in_places", "wrong_in_places", defArgs (top 25), defBody (top 25), defScope (top 25), [], []⟩,
  ⟨("is_tuple_of", none), "is_tuple_of", "is_tuple_of", defArgs (top 17), defBody (top 17), defScope (top 17), [], []⟩,
  ⟨("is_pair", none), "is_pair", "is_pair", defArgs (top 18), defBody (top 18), defScope (top 18), [], []⟩,
  ⟨("is_one_of", none), "is_one_of", "is_one_of", defArgs (top 14), defBody (top 14), defScope (top 14), [], []⟩,
  ⟨("is_tie", none), "is_tie", "is_tie", defArgs (top 26), defBody (top 26), defScope (top 26), [], []⟩,
  ⟨("wrong_in_ties", none), "wrong_in_ties", "wrong_in_ties", defArgs (top 27), defBody (top 27), defScope (top 27), [], []⟩,
  ⟨("Web", some "__init__"), "__init__", "Web.__init__", defArgs (topM 43 0), defBody (topM 43 0), defScope (topM 43 0), [], []⟩,
  ⟨("_law_made", none), "_law_made", "_law_made", defArgs (top 81), defBody (top 81), defScope (top 81), [], []⟩,
  ⟨("_law_size", none), "_law_size", "_law_size", defArgs (top 80), defBody (top 80), defScope (top 80), [], []⟩,
  ⟨("_law_text", none), "_law_text", "_law_text", defArgs (top 82), defBody (top 82), defScope (top 82), [], []⟩,
  ⟨("words_of", none), "words_of", "words_of", defArgs (top 61), defBody (top 61), defScope (top 61), [], []⟩] : List He.DefD) ++ ([⟨("is_rule_row", none), "is_rule_row", "is_rule_row", defArgs (top 62), defBody (top 62), defScope (top 62), [], []⟩,
  ⟨("marked_words", none), "marked_words", "marked_words", defArgs (top 60), defBody (top 60), defScope (top 60), [], []⟩,
  ⟨("is_figures", none), "is_figures", "is_figures", defArgs (top 59), defBody (top 59), defScope (top 59), [], []⟩,
  ⟨("is_row", none), "is_row", "is_row", defArgs (top 63), defBody (top 63), defScope (top 63), [], []⟩,
  ⟨("wrong_in_lines", none), "wrong_in_lines", "wrong_in_lines", defArgs (top 64), defBody (top 64), defScope (top 64), [], []⟩,
  ⟨("mark_in", none), "mark_in", "mark_in", defArgs (top 65), defBody (top 65), defScope (top 65), [], []⟩,
  ⟨("told_by", none), "told_by", "told_by", defArgs (top 66), defBody (top 66), defScope (top 66), [], []⟩,
  ⟨("check_web", none), "check_web", "check_web", defArgs (top 44), defBody (top 44), defScope (top 44), [], []⟩,
  ⟨("size_by", none), "size_by", "size_by", defArgs (top 39), defBody (top 39), defScope (top 39), [], []⟩,
  ⟨("check_rule", none), "check_rule", "check_rule", defArgs (top 48), defBody (top 48), defScope (top 48), [], []⟩,
  ⟨("read_marks", none), "read_marks", "read_marks", defArgs (top 71), defBody (top 71), defScope (top 71), [], []⟩,
  ⟨("_law_same", none), "_law_same", "_law_same", defArgs (top 76), defBody (top 76), defScope (top 76), [], []⟩,
  ⟨("is_whole", none), "is_whole", "is_whole", defArgs (top 13), defBody (top 13), defScope (top 13), [], []⟩,
  ⟨("is_number", none), "is_number", "is_number", defArgs (top 40), defBody (top 40), defScope (top 40), [], []⟩,
  ⟨("wrong_in_all", none), "wrong_in_all", "wrong_in_all", defArgs (top 20), defBody (top 20), defScope (top 20), [], []⟩,
  ⟨("wrong_in_told", none), "wrong_in_told", "wrong_in_told", defArgs (top 41), defBody (top 41), defScope (top 41), [], []⟩,
  ⟨("check_told", none), "check_told", "check_told", defArgs (top 49), defBody (top 49), defScope (top 49), [], []⟩,
  ⟨("mark_word", none), "mark_word", "mark_word", defArgs (top 67), defBody (top 67), defScope (top 67), [], []⟩,
  ⟨("rows_by", none), "rows_by", "rows_by", defArgs (top 68), defBody (top 68), defScope (top 68), [], []⟩,
  ⟨("mark_rows", none), "mark_rows", "mark_rows", defArgs (top 70), defBody (top 70), defScope (top 70), [], []⟩] : List He.DefD) ++ ([⟨("Web", some "__eq__"), "__eq__", "Web.__eq__", defArgs (topM 43 4), defBody (topM 43 4), defScope (topM 43 4), [], []⟩,
  ⟨("_law_right", none), "_law_right", "_law_right", defArgs (top 83), defBody (top 83), defScope (top 83), [], []⟩,
  ⟨("_law_bowl", none), "_law_bowl", "_law_bowl", defArgs (top 73), defBody (top 73), defScope (top 73), [], []⟩,
  ⟨("law", none), "law", "law", defArgs (top 84), defBody (top 84), defScope (top 84), [], []⟩] : List He.DefD)
def ts : List He.Tab := ([(fun K => He.ga K "NAMES", ["place", "tie"])] : List He.Tab)
def tq : List (He.Defn × Str) := ([(("wrong_in_places", none), "wrong_in_places.<locals>.<lambda>"),
  (("wrong_in_ties", none), "wrong_in_ties.<locals>.<lambda>"),
  (("wrong_in_told", none), "wrong_in_told.<locals>.<lambda>"),
  (("wrong_in_all", none), "wrong_in_all.<locals>.<lambda>")] : List (He.Defn × Str))
def tf : List He.Defn := tq.map (·.1)
def pr : List PrD := ([⟨"Web", "places", "Web.places", defArgs (topM 43 1), defBody (topM 43 1), defScope (topM 43 1)⟩,
  ⟨"Web", "ties", "Web.ties", defArgs (topM 43 2), defBody (topM 43 2), defScope (topM 43 2)⟩,
  ⟨"Web", "parts", "Web.parts", defArgs (topM 43 3), defBody (topM 43 3), defScope (topM 43 3)⟩] : List PrD)
def exs : List (PySem.W.Frag → Bool) := ([fun K => isfB K cls,
  fun K => tabU K tq,
  fun K => cB K "LETTERS" c_LETTERS,
  fun K => cB K "MOST_LETTERS" c_MOST_LETTERS,
  fun K => cB K "WORDS" c_WORDS,
  fun K => cB K "MOST_PLACES" c_MOST_PLACES,
  fun K => cB K "MOST_TIES" c_MOST_TIES,
  fun K => cB K "RULE" c_RULE,
  fun K => cB K "RULES" c_RULES,
  fun K => cB K "PLACE" c_PLACE,
  fun K => kdB K "NAMES" d_NAMES,
  fun K => cB K "LIKE" c_LIKE,
  fun K => cB K "TIE" c_TIE,
  fun K => cB K "ONES" c_ONES,
  fun K => cB K "UNLIKE" c_UNLIKE,
  fun K => cB K "OPEN" c_OPEN,
  fun K => cB K "MOST_FIGURES" c_MOST_FIGURES,
  fun K => cB K "FIGURES" c_FIGURES,
  fun K => ctB K "ORDER" t_ORDER,
  fun K => cB K "MOST_LIKE" c_MOST_LIKE] : List (PySem.W.Frag → Bool)) ++ ([fun K => cB K "MOST_UNLIKE" c_MOST_UNLIKE] : List (PySem.W.Frag → Bool))
def ex (K : PySem.W.Frag) : Bool := exs.all fun f => f K
theorem exs_at {K : PySem.W.Frag} (h : ex K = true) (i : Nat) {f : PySem.W.Frag → Bool} (e : exs[i]? = some f) : f K = true := List.all_eq_true.mp h f (List.mem_of_getElem? e)
abbrev sta (K : PySem.W.Frag) : Sta := ⟨K, tabT K tq, fun n => lamTab[n]?⟩
theorem top_of {w : World} {K : PySem.W.Frag} {h0 h : Heap} {mg : Str → Option Value} {base : Heap} (X : K.In h) (G : h.Ns mainGlobals mg) (c : SaysY fa fn ts tf ex pr w h0 K) (hT : ∀ p ∈ tf, LamX.TabB base mg (He.cT K p).1 (He.cT K p).2) : Top w (sta K) mg base where
  isf := isfB_ok (exs_at c.more 0 rfl)
  lam := fun n L e => e
  z_len := He.free_ok X G (c.d.fact 0 rfl)
  z_min := He.free_ok X G (c.d.fact 1 rfl)
  z_max := He.free_ok X G (c.d.fact 2 rfl)
  z_range := He.free_ok X G (c.d.fact 3 rfl)
  z_divmod := He.free_ok X G (c.d.fact 4 rfl)
  z_int := He.free_ok X G (c.d.fact 5 rfl)
  fn__law_draw := c.d.def_ 0 rfl
  g__law_draw := He.glo_ok X G (c.d.fact 6 rfl)
  fn__law_of := c.d.def_ 1 rfl
  g__law_of := He.glo_ok X G (c.d.fact 7 rfl)
  fn__law_own := c.d.def_ 2 rfl
  g__law_own := He.glo_ok X G (c.d.fact 8 rfl)
  z_sorted := He.free_ok X G (c.d.fact 9 rfl)
  z_tuple := He.free_ok X G (c.d.fact 10 rfl)
  fn__law_names := c.d.def_ 3 rfl
  g__law_names := He.glo_ok X G (c.d.fact 11 rfl)
  fn__law_web := c.d.def_ 4 rfl
  g__law_web := He.glo_ok X G (c.d.fact 12 rfl)
  z_isinstance := He.free_ok X G (c.d.fact 13 rfl)
  z_str := He.free_ok X G (c.d.fact 14 rfl)
  c_LETTERS := cB_ok X G (exs_at c.more 2 rfl)
  z_all := He.free_ok X G (c.d.fact 15 rfl)
  fn_is_word := c.d.def_ 5 rfl
  g_is_word := He.glo_ok X G (c.d.fact 16 rfl)
  c_MOST_LETTERS := cB_ok X G (exs_at c.more 3 rfl)
  c_WORDS := cB_ok X G (exs_at c.more 4 rfl)
  fn_is_name := c.d.def_ 6 rfl
  g_is_name := He.glo_ok X G (c.d.fact 17 rfl)
  fn_are_below := c.d.def_ 7 rfl
  g_are_below := He.glo_ok X G (c.d.fact 18 rfl)
  z_enumerate := He.free_ok X G (c.d.fact 19 rfl)
  fn_wrong_in := c.d.def_ 8 rfl
  g_wrong_in := He.glo_ok X G (c.d.fact 20 rfl)
  c_MOST_PLACES := cB_ok X G (exs_at c.more 5 rfl)
  fn_wrong_in_places := c.d.def_ 9 rfl
  g_wrong_in_places := He.glo_ok X G (c.d.fact 21 rfl)
  fn_is_tuple_of := c.d.def_ 10 rfl
  g_is_tuple_of := He.glo_ok X G (c.d.fact 22 rfl)
  fn_is_pair := c.d.def_ 11 rfl
  g_is_pair := He.glo_ok X G (c.d.fact 23 rfl)
  fn_is_one_of := c.d.def_ 12 rfl
  g_is_one_of := He.glo_ok X G (c.d.fact 24 rfl)
  fn_is_tie := c.d.def_ 13 rfl
  g_is_tie := He.glo_ok X G (c.d.fact 25 rfl)
  c_MOST_TIES := cB_ok X G (exs_at c.more 6 rfl)
  fn_wrong_in_ties := c.d.def_ 14 rfl
  g_wrong_in_ties := He.glo_ok X G (c.d.fact 26 rfl)
  cf_Web_all_told := ⟨He.cls_ok (c.d.fact 27 rfl), He.noat_ok (c.d.fact 28 rfl)⟩
  fn_Web___init__ := c.d.def_ 15 rfl
  g_Web := He.glo_ok X G (c.d.fact 29 rfl)
  mkr_Web := He.mkr_ok (c.d.fact 30 rfl)
  fn__law_made := c.d.def_ 16 rfl
  g__law_made := He.glo_ok X G (c.d.fact 31 rfl)
  fn__law_size := c.d.def_ 17 rfl
  g__law_size := He.glo_ok X G (c.d.fact 32 rfl)
  fn__law_text := c.d.def_ 18 rfl
  g__law_text := He.glo_ok X G (c.d.fact 33 rfl)
  fn_words_of := c.d.def_ 19 rfl
  g_words_of := He.glo_ok X G (c.d.fact 34 rfl)
  c_RULE := cB_ok X G (exs_at c.more 7 rfl)
  c_RULES := cB_ok X G (exs_at c.more 8 rfl)
  fn_is_rule_row := c.d.def_ 20 rfl
  g_is_rule_row := He.glo_ok X G (c.d.fact 35 rfl)
  c_PLACE := cB_ok X G (exs_at c.more 9 rfl)
  kd_NAMES := kdB_ok X G (exs_at c.more 10 rfl) (c.x.t.tab 0 rfl)
  c_LIKE := cB_ok X G (exs_at c.more 11 rfl)
  c_TIE := cB_ok X G (exs_at c.more 12 rfl)
  c_ONES := cB_ok X G (exs_at c.more 13 rfl)
  c_UNLIKE := cB_ok X G (exs_at c.more 14 rfl)
  fn_marked_words := c.d.def_ 21 rfl
  g_marked_words := He.glo_ok X G (c.d.fact 36 rfl)
  c_OPEN := cB_ok X G (exs_at c.more 15 rfl)
  c_MOST_FIGURES := cB_ok X G (exs_at c.more 16 rfl)
  c_FIGURES := cB_ok X G (exs_at c.more 17 rfl)
  fn_is_figures := c.d.def_ 22 rfl
  g_is_figures := He.glo_ok X G (c.d.fact 37 rfl)
  fn_is_row := c.d.def_ 23 rfl
  g_is_row := He.glo_ok X G (c.d.fact 38 rfl)
  ct_ORDER := ctB_ok X G (exs_at c.more 18 rfl)
  fn_wrong_in_lines := c.d.def_ 24 rfl
  g_wrong_in_lines := He.glo_ok X G (c.d.fact 39 rfl)
  fn_mark_in := c.d.def_ 25 rfl
  g_mark_in := He.glo_ok X G (c.d.fact 40 rfl)
  fn_told_by := c.d.def_ 26 rfl
  g_told_by := He.glo_ok X G (c.d.fact 41 rfl)
  fn_check_web := c.d.def_ 27 rfl
  g_check_web := He.glo_ok X G (c.d.fact 42 rfl)
  c_MOST_LIKE := cB_ok X G (exs_at c.more 19 rfl)
  c_MOST_UNLIKE := cB_ok X G (exs_at c.more 20 rfl)
  pp_Web_places := c.prop (List.mem_of_getElem? (i := 0) rfl)
  cls_Web := He.cls_ok (c.d.fact 27 rfl)
  pp_Web_ties := c.prop (List.mem_of_getElem? (i := 1) rfl)
  fn_size_by := c.d.def_ 28 rfl
  g_size_by := He.glo_ok X G (c.d.fact 43 rfl)
  fn_check_rule := c.d.def_ 29 rfl
  g_check_rule := He.glo_ok X G (c.d.fact 44 rfl)
  fn_read_marks := c.d.def_ 30 rfl
  g_read_marks := He.glo_ok X G (c.d.fact 45 rfl)
  z_bool := He.free_ok X G (c.d.fact 46 rfl)
  fn__law_same := c.d.def_ 31 rfl
  g__law_same := He.glo_ok X G (c.d.fact 47 rfl)
  fn_is_whole := c.d.def_ 32 rfl
  g_is_whole := He.glo_ok X G (c.d.fact 48 rfl)
  fn_is_number := c.d.def_ 33 rfl
  g_is_number := He.glo_ok X G (c.d.fact 49 rfl)
  fn_wrong_in_all := c.d.def_ 34 rfl
  g_wrong_in_all := He.glo_ok X G (c.d.fact 50 rfl)
  fn_wrong_in_told := c.d.def_ 35 rfl
  g_wrong_in_told := He.glo_ok X G (c.d.fact 51 rfl)
  fn_check_told := c.d.def_ 36 rfl
  g_check_told := He.glo_ok X G (c.d.fact 52 rfl)
  z_dict := He.free_ok X G (c.d.fact 53 rfl)
  z_zip := He.free_ok X G (c.d.fact 54 rfl)
  fn_mark_word := c.d.def_ 37 rfl
  g_mark_word := He.glo_ok X G (c.d.fact 55 rfl)
  fn_rows_by := c.d.def_ 38 rfl
  g_rows_by := He.glo_ok X G (c.d.fact 56 rfl)
  fn_mark_rows := c.d.def_ 39 rfl
  g_mark_rows := He.glo_ok X G (c.d.fact 57 rfl)
  pp_Web_parts := c.prop (List.mem_of_getElem? (i := 2) rfl)
  fn_Web___eq__ := c.d.def_ 40 rfl
  meth_Web___eq__ := He.meth_ok (c.d.fact 58 rfl)
  fn__law_right := c.d.def_ 41 rfl
  g__law_right := He.glo_ok X G (c.d.fact 59 rfl)
  z_abs := He.free_ok X G (c.d.fact 60 rfl)
  fn__law_bowl := c.d.def_ 42 rfl
  g__law_bowl := He.glo_ok X G (c.d.fact 61 rfl)
  fn_law := c.d.def_ 43 rfl
  g_law := He.glo_ok X G (c.d.fact 62 rfl)
  mk_wrong_in_places := ⟨hT _ (List.mem_of_getElem? (i := 0) rfl), tab_in (exs_at c.more 1 rfl) (List.mem_of_getElem? (i := 0) rfl)⟩
  mk_wrong_in_ties := ⟨hT _ (List.mem_of_getElem? (i := 1) rfl), tab_in (exs_at c.more 1 rfl) (List.mem_of_getElem? (i := 1) rfl)⟩
  mk_wrong_in_told := ⟨hT _ (List.mem_of_getElem? (i := 2) rfl), tab_in (exs_at c.more 1 rfl) (List.mem_of_getElem? (i := 2) rfl)⟩
  mk_wrong_in_all := ⟨hT _ (List.mem_of_getElem? (i := 3) rfl), tab_in (exs_at c.more 1 rfl) (List.mem_of_getElem? (i := 3) rfl)⟩
abbrev RR : PySem.W.OpenRow := PySem.W.OpenLaw.row PySem.Challenge.rw_tielabels_k83_whole_texts_of_marks
abbrev hk : PySem.W.Hook := hookY 8 fa fn ts tf ex pr
def ob (s : PySem.W.SharedT) : AlY := obsY 8 fa fn ts tf ex pr (HandSHeadRun.getT s)
theorem ob_eq (s : PySem.W.SharedT) : ob s = hk.obs s.abs := obsY_eq (HandSHeadRun.getT_eq s)
def loose : List Str := (["MarkError", "InvalidWord", "NotAWeb", "TooMany", "InvalidPlaces", "InvalidTies", "InvalidMarks", "InvalidText", "LETTERS", "MOST_LETTERS", "WORDS", "is_whole", "is_one_of", "is_word", "is_name", "is_tuple_of", "is_pair", "wrong_in", "wrong_in_all", "are_below", "MOST_PLACES", "MOST_TIES", "wrong_in_places", "is_tie"] : List Str) ++ (["wrong_in_ties", "STEPS", "RESTS", "HALVES", "LIKE", "UNLIKE", "LUCKY", "ONES", "FAR", "FREE", "RULES", "size_by", "is_number", "wrong_in_told", "Web", "check_web", "MOST_LIKE", "MOST_UNLIKE", "check_rule", "check_told", "RULE", "PLACE", "TIE", "OPEN"] : List Str) ++ (["NAMES", "ORDER", "FIGURES", "MOST_FIGURES", "is_figures", "marked_words", "words_of", "is_rule_row", "is_row", "wrong_in_lines", "mark_in", "told_by", "mark_word", "rows_by", "mark_rows", "read_marks", "_law_bowl", "_law_draw", "_law_of", "_law_same", "_law_own", "_law_names", "_law_web", "_law_size"] : List Str) ++ (["_law_made", "_law_text", "_law_right"] : List Str)
def LawTrue : Prop := ∀ ns : List Int, ns.length ≤ 63 → (∀ z ∈ ns, Builtin.Int.intBits z ≤ 1048576) → ∃ μ, m_law [.scr (ns.map .int)] [] = .ok (.bl true) μ
theorem at_law (lt : LawTrue) (w : World) (mg : Str → Option Value) (f : Addr) (h : Heap) (Y : hk.says w h) (G : h.Ns mainGlobals mg) (hmg : mg ("law" : Str) = some (.ref f)) : ∃ K : PySem.W.Frag, K.In h ∧ LamX.LawAtS PySem.Challenge.rw_tielabels_k83_whole_texts_of_marks w K (L2.CX (PySem.Challenge.rw_tielabels_k83_whole_texts_of_marks).prog w) 11 63 "script" mg f h := by
  obtain ⟨K, X, c⟩ := Y
  obtain ⟨fd, F⟩ := c.d.def_ 43 rfl
  have e := hmg.symm.trans (He.glo_ok X G (c.d.fact 62 rfl))
  cases e
  have b := FunD.bindsA (ps := ["script"]) F fun _ _ _ _ _ _ us hl => match us, hl with | [_], _ => rfl
  refine ⟨K, X, fd, tf.map (He.cT K), spF (sta K) 1 m_law, fun p hp => ?_, fun p hp => ?_, fun p hp => ?_, fun s u => b s [u] rfl, fun H a ns hl hbits hT hS => ?_, fun base Xb Gb hT => ?_⟩
  · obtain ⟨d, hd, rfl⟩ := List.mem_map.mp hp; exact c.x.empty d hd
  · obtain ⟨d, hd, rfl⟩ := List.mem_map.mp hp; exact c.x.out d hd
  · obtain ⟨d, hd, rfl⟩ := List.mem_map.mp hp; exact PySem.W.codeHd_of_K X (c.x.hd d hd)
  · obtain ⟨μ, hm⟩ := lt ns hl hbits
    refine law_start (S := sta K) (fun p hp => ?_) hS hm
    obtain ⟨d, hd, rfl⟩ := List.mem_map.mp (show p ∈ tq.map (fun p => ((He.cT K p.1).2, p.2)) from hp)
    exact hT _ (List.mem_map.mpr ⟨d.1, List.mem_map.mpr ⟨d, hd, rfl⟩, rfl⟩)
  · exact fnok_law (top_of Xb Gb c fun p hp => hT _ (List.mem_map.mpr ⟨p, hp, rfl⟩)) F
end Nk83
set_option maxRecDepth 100000
set_option maxHeartbeats 4000000
namespace Nk83
open PySem PySem.Spec L2 NdefX DL
open PyProof.Rows (envOfC)
set_option maxHeartbeats 0 in
theorem run_f (w : World) : HandSHeadRun.RunEq RR (PySem.W.view RR.prog [84]) hk ob 6000 loose (w.withFollow "special-get-raises" false) := by
  intro os
  kernel_rfl
set_option maxHeartbeats 0 in
theorem run_t (w : World) : HandSHeadRun.RunEq RR (PySem.W.view RR.prog [84]) hk ob 6000 loose (w.withFollow "special-get-raises" true) := by
  intro os
  kernel_rfl
theorem run (w : World) : HandSHeadRun.RunEq RR (PySem.W.view RR.prog [84]) hk ob 6000 loose w := PySem.W.byRow2 "special-get-raises" run_f run_t w
end Nk83
namespace Nk83
theorem law_true : LawTrue := fun ns h hb => law_ev ns h
end Nk83
open PySem PySem.W PySem.Calls PyProof.Rows
set_option maxHeartbeats 0 in
theorem PySem.Challenge.cw_tielabels_k83_whole_texts_of_marks_holds : PySem.Challenge.rw_tielabels_k83_whole_texts_of_marks.Holds := by
  w_on; o_law
  refine HandSHeadRun.head_any (r := OpenLaw.row PySem.Challenge.rw_tielabels_k83_whole_texts_of_marks) (q := view (OpenLaw.row PySem.Challenge.rw_tielabels_k83_whole_texts_of_marks).prog [84]) (H := Nk83.hk) (ob := Nk83.ob) (M := 6000) (loose := Nk83.loose) (d := HandSHeadRun.topDef (OpenLaw.row PySem.Challenge.rw_tielabels_k83_whole_texts_of_marks).prog 84) (kwd := []) Nk83.ob_eq
    (by kernel_rfl) (fun s => by kernel_rfl) Nk83.run (by kernel_rfl) (by kernel_rfl) (by kernel_rfl) (by rfl) (by first | assumption | decide +kernel) (by decide +kernel) ⟨rfl, rfl, rfl, rfl, rfl, by decide +kernel⟩ ?hw ?hc
  case hw => w_witness2
  case hc =>
    refine LamX.walk_ofTsE (l := PySem.Challenge.rw_tielabels_k83_whole_texts_of_marks) (n := 63) (k := 11) (x := "script") (CX := fun w => L2.CX (PySem.Challenge.rw_tielabels_k83_whole_texts_of_marks).prog w) rfl (by decide) (by kernel_rfl) ⟨rfl, by decide, by decide⟩ ?F (fun _ _ _ _ _ z => by obtain ⟨_, _, _, _, _, _, _, _, _, _, _, _, z⟩ := z; exact z)
    intro w mg fa h Y G hmg0
    have hmg : mg ("law" : PySem.Str) = some (.ref fa) := by
      have e : (HandSHeadRun.topDef (OpenLaw.row PySem.Challenge.rw_tielabels_k83_whole_texts_of_marks).prog 84).name = ("law" : PySem.Str) := by kernel_rfl
      rw [← e]
      exact hmg0
    exact Nk83.at_law Nk83.law_true w mg fa h Y G hmg
