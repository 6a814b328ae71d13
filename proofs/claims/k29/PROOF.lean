import PyProof.Rows.All
import Wide.All
import OpenK.AllK
import Wide.FinOn
import HandS.ForMost
import HandS.NoneIn
import HandS.Flow
import HandS.Deep
import HandS.TupLe
import HandS.TupAny
import HandS.Wide
import HandS.WideBits
import HandS.Conv
import HandS.SortInts
import HandS.Strs
import HandS.IsInst
import HandS.Style
import HandS.Exc
import HandS.WordsExc
import HandS.Defaults
import HandS.SetFor
import HandS.TupSets
import HandS.ExcOwn
import HandS.Ends
import HandS.HeadEnd
import HandS.HeadHook2
import HandS.Rev
import HandS.Zip
import HandS.Iter
import HandS.Comp
import HandS.Head0
import HandS.Head1
import HandS.Head2
import PySem.Challenge.RW_keyroads_k29_whole_keys_at_an_end
set_option Elab.async false
set_option linter.all false
set_option maxRecDepth 100000
set_option maxHeartbeats 1000000
namespace Kr
open PySem PySem.Spec PyProof.Rows L2

abbrev D := PyData
abbrev Ent := V × Nat × D
abbrev Fp := List Addr

def keyD : Key → D
  | .inl i => .int i
  | .inr s => .str s
/-- a mutable thing's content: component values, component data -/
inductive Cont : HO → D → List V → List D → Prop
  | lst (vs : List V) (ds : List D) : Cont (.lst vs) (.list ds) vs ds
  | dK (kvs : List (Key × V)) (ps : List (D × D)) (h : kvs.map (fun p => keyD p.1) = ps.map (fun p => p.1)) : Cont (.dK kvs) (.dict ps) (kvs.map (fun p => p.2)) (ps.map (fun p => p.2))
  | dT (kvs : List (List Key × V)) (ps : List (D × D)) (h : kvs.map (fun p => PyData.tuple (p.1.map keyD)) = ps.map (fun p => p.1)) : Cont (.dT kvs) (.dict ps) (kvs.map (fun p => p.2)) (ps.map (fun p => p.2))

section
variable (F : Addr → Prop) (H : Hp)
mutual
/-- what never changes any more: its objects' addresses are in F -/
inductive Fz : V → D → Prop
  | non : Fz .non .none
  | bl (b : Bool) : Fz (.bl b) (.bool b)
  | int (i : Int) : Fz (.int i) (.int i)
  | str (x : Str) : Fz (.str x) (.str x)
  | tup {a : Addr} {vs : List V} {ds : List D} : F a → H a = some (.tup vs) → FzAll vs ds → Fz (.ref a) (.tuple ds)
  | frz {a : Addr} {o : Obj} {vs : List V} {ds : List D} : F a → H a = some (.frz o (.lst vs)) → FzAll vs ds → Fz (.ref a) (.list ds)
  | cont {a : Addr} {o : HO} {d : D} {vs : List V} {ds : List D} : F a → H a = some o → Cont o d vs ds → FzAll vs ds → Fz (.ref a) d
inductive FzAll : List V → List D → Prop
  | nil : FzAll [] []
  | cons {v : V} {vs : List V} {d : D} {ds : List D} : Fz v d → FzAll vs ds → FzAll (v :: vs) (d :: ds)
end
inductive All3 (P : V → D → Fp → Prop) : List V → List D → List Fp → Prop
  | nil : All3 P [] [] []
  | cons {v : V} {vs : List V} {d : D} {ds : List D} {f : Fp} {fs : List Fp} : P v d f → All3 P vs ds fs → All3 P (v :: vs) (d :: ds) (f :: fs)
def isC : D → Bool
  | .list _ => true
  | .dict _ => true
  | _ => false
/-- owned to a depth; fp: the addresses that are owned -/
def Own : Nat → V → D → Fp → Prop
  | 0, v, d, fp => Fz F H v d ∧ fp = []
  | n + 1, v, d, fp => (Fz F H v d ∧ fp = [] ∧ isC d = false) ∨ ∃ a o vs ds fps, v = .ref a ∧ H a = some o ∧ Cont o d vs ds ∧ fp = a :: fps.flatten ∧ All3 (Own n) vs ds fps
inductive Ents : List Ent → List Fp → Prop
  | nil : Ents [] []
  | cons {v : V} {n : Nat} {d : D} {L : List Ent} {f : Fp} {fs : List Fp} : Own F H n v d f → Ents L fs → Ents ((v, n, d) :: L) (f :: fs)
end
def Sep (Xs : Fp) (H : Hp) (L : List Ent) : Prop :=
  ∃ (F : Addr → Prop) (fps : List Fp), (∀ a, F a → H a ≠ none) ∧ Ents F H L fps ∧ (Xs ++ fps.flatten).Nodup ∧ ∀ a ∈ Xs ++ fps.flatten, ¬ F a

/-! ### monotone -/
section
variable {F F' : Addr → Prop} {H H' : Hp}
mutual
theorem Fz.mono (hF : ∀ a, F a → F' a) (hH : ∀ a o, F a → H a = some o → H' a = some o) : ∀ {v : V} {d : D}, Fz F H v d → Fz F' H' v d
  | _, _, .non => .non
  | _, _, .bl b => .bl b
  | _, _, .int i => .int i
  | _, _, .str x => .str x
  | _, _, .tup f h a => .tup (hF _ f) (hH _ _ f h) (FzAll.mono hF hH a)
  | _, _, .frz f h a => .frz (hF _ f) (hH _ _ f h) (FzAll.mono hF hH a)
  | _, _, .cont f h c a => .cont (hF _ f) (hH _ _ f h) c (FzAll.mono hF hH a)
theorem FzAll.mono (hF : ∀ a, F a → F' a) (hH : ∀ a o, F a → H a = some o → H' a = some o) : ∀ {vs : List V} {ds : List D}, FzAll F H vs ds → FzAll F' H' vs ds
  | _, _, .nil => .nil
  | _, _, .cons h t => .cons (Fz.mono hF hH h) (FzAll.mono hF hH t)
end
theorem All3.mono {P P' : V → D → Fp → Prop} : ∀ {vs : List V} {ds : List D} {fps : List Fp}, (∀ v d f, f ∈ fps → P v d f → P' v d f) → All3 P vs ds fps → All3 P' vs ds fps
  | _, _, _, _, .nil => .nil
  | _, _, _, h, .cons a b => .cons (h _ _ _ List.mem_cons_self a) (All3.mono (fun v d g hg => h v d g (List.mem_cons_of_mem _ hg)) b)
theorem Own.mono (hF : ∀ a, F a → F' a) (hH : ∀ a o, F a → H a = some o → H' a = some o) : ∀ {n : Nat} {v : V} {d : D} {fp : Fp}, (∀ a ∈ fp, ∀ o, H a = some o → H' a = some o) → Own F H n v d fp → Own F' H' n v d fp
  | 0, _, _, _, _, ⟨h, e⟩ => ⟨h.mono hF hH, e⟩
  | n + 1, _, _, _, _, .inl ⟨h, e⟩ => .inl ⟨h.mono hF hH, e⟩
  | n + 1, v, d, fp, hO, .inr ⟨a, o, vs, ds, fps, e1, e2, c, e3, al⟩ => .inr ⟨a, o, vs, ds, fps, e1, hO a (by rw [e3]; exact List.mem_cons_self) o e2, c, e3,
      All3.mono (fun v d f hf h => Own.mono hF hH (fun b hb => hO b (by rw [e3]; exact List.mem_cons_of_mem _ (List.mem_flatten.mpr ⟨f, hf, hb⟩))) h) al⟩
theorem Ents.mono (hF : ∀ a, F a → F' a) (hH : ∀ a o, F a → H a = some o → H' a = some o) : ∀ {L : List Ent} {fps : List Fp}, (∀ a ∈ fps.flatten, ∀ o, H a = some o → H' a = some o) → Ents F H L fps → Ents F' H' L fps
  | _, _, _, .nil => .nil
  | _, _, hO, .cons a b => .cons (Own.mono hF hH (fun x hx => hO x (by rw [List.flatten_cons]; exact List.mem_append_left _ hx)) a) (Ents.mono hF hH (fun x hx => hO x (by rw [List.flatten_cons]; exact List.mem_append_right _ hx)) b)
/-- what is owned is tracked -/
theorem All3.some {P : V → D → Fp → Prop} : ∀ {vs : List V} {ds : List D} {fps : List Fp}, All3 P vs ds fps → ∀ f ∈ fps, ∃ v d, P v d f
  | _, _, _, .nil, f, hf => (by cases hf)
  | _, _, _, .cons a b, f, hf => by
    rcases List.mem_cons.mp hf with e | hf
    · exact ⟨_, _, e ▸ a⟩
    · exact All3.some b f hf
theorem Own.there : ∀ {n : Nat} {v : V} {d : D} {fp : Fp}, Own F H n v d fp → ∀ a ∈ fp, H a ≠ none
  | 0, _, _, _, ⟨_, e⟩, a, ha => (by rw [e] at ha; cases ha)
  | n + 1, _, _, _, .inl ⟨_, e, _⟩, a, ha => (by rw [e] at ha; cases ha)
  | n + 1, _, _, _, .inr ⟨b, o, vs, ds, fps, e1, e2, c, e3, al⟩, a, ha => by
    rw [e3] at ha
    rcases List.mem_cons.mp ha with e | ha
    · rw [e, e2]; exact fun z => nomatch z
    · obtain ⟨f, hf, hb⟩ := List.mem_flatten.mp ha
      obtain ⟨v, d, h⟩ := al.some f hf
      exact Own.there h a hb
theorem Ents.there : ∀ {L : List Ent} {fps : List Fp}, Ents F H L fps → ∀ a ∈ fps.flatten, H a ≠ none
  | _, _, .nil, a, ha => (by simp at ha)
  | _, _, .cons h1 h2, a, ha => by
    rw [List.flatten_cons] at ha
    rcases List.mem_append.mp ha with z | z
    · exact h1.there a z
    · exact Ents.there h2 a z
/-- frozen: the owned addresses go into F -/
theorem FzAll.of_all3 {P : V → D → Fp → Prop} : ∀ {vs : List V} {ds : List D} {fps : List Fp}, (∀ v d f, f ∈ fps → P v d f → Fz F H v d) → All3 P vs ds fps → FzAll F H vs ds
  | _, _, _, _, .nil => .nil
  | _, _, _, h, .cons a b => .cons (h _ _ _ List.mem_cons_self a) (FzAll.of_all3 (fun v d g hg => h v d g (List.mem_cons_of_mem _ hg)) b)
theorem Own.freeze (hF : ∀ a, F a → F' a) : ∀ {n : Nat} {v : V} {d : D} {fp : Fp}, (∀ a ∈ fp, F' a) → Own F H n v d fp → Fz F' H v d
  | 0, _, _, _, _, ⟨h, _⟩ => h.mono hF (fun _ _ _ e => e)
  | n + 1, _, _, _, _, .inl ⟨h, _⟩ => h.mono hF (fun _ _ _ e => e)
  | n + 1, v, d, fp, hO, .inr ⟨a, o, vs, ds, fps, e1, e2, c, e3, al⟩ => by
    subst e1
    refine .cont (hO a (by rw [e3]; exact List.mem_cons_self)) e2 c (FzAll.of_all3 (fun v d f hf h => Own.freeze hF (fun b hb => hO b ?_) h) al)
    rw [e3]; exact List.mem_cons_of_mem _ (List.mem_flatten.mpr ⟨f, hf, hb⟩)
end
/-! ### Sep -/
section
variable {Xs : Fp} {H H' : Hp} {L L' : List Ent}
theorem Own.weak {F : Addr → Prop} {H : Hp} : ∀ {n m : Nat}, m ≤ n → ∀ {v : V} {d : D} {fp : Fp}, Own F H n v d fp → ∃ fz rest : Fp, (fz ++ rest).Perm fp ∧ ∀ F' : Addr → Prop, (∀ a, F a → F' a) → (∀ a ∈ fz, F' a) → Own F' H m v d rest
  | 0, 0, _, _, _, _, h => ⟨[], _, by simp, fun F' hF _ => h.mono hF (fun _ _ _ e => e) (fun _ _ _ e => e)⟩
  | n + 1, 0, _, v, d, fp, h => ⟨fp, [], by simp, fun F' hF hf => ⟨h.freeze hF hf, rfl⟩⟩
  | n + 1, m + 1, hle, v, d, fp, .inl ⟨h, e⟩ => ⟨[], fp, by simp, fun F' hF _ => .inl ⟨h.mono hF (fun _ _ _ e => e), e⟩⟩
  | n + 1, m + 1, hle, v, d, fp, .inr ⟨a, o, vs, ds, fps, e1, e2, c, e3, al⟩ => by
    have go : ∀ {vs : List V} {ds : List D} {fps : List Fp}, All3 (Own F H n) vs ds fps → ∃ (fz : Fp) (rs : List Fp), (fz ++ rs.flatten).Perm fps.flatten ∧ ∀ F' : Addr → Prop, (∀ a, F a → F' a) → (∀ a ∈ fz, F' a) → All3 (Own F' H m) vs ds rs := by
      intro vs ds fps al
      induction al with
      | nil => exact ⟨[], [], by simp, fun _ _ _ => .nil⟩
      | cons p q ih =>
        obtain ⟨fz1, r1, p1, k1⟩ := Own.weak (Nat.le_of_succ_le_succ hle) p
        obtain ⟨fz2, rs, p2, k2⟩ := ih
        refine ⟨fz1 ++ fz2, r1 :: rs, ?_, fun F' hF hf => .cons (k1 F' hF fun a ha => hf a (List.mem_append_left _ ha)) (k2 F' hF fun a ha => hf a (List.mem_append_right _ ha))⟩
        simp only [List.flatten_cons]
        refine List.Perm.trans ?_ (p1.append p2)
        simp only [List.append_assoc]
        refine List.Perm.append_left _ ?_
        rw [← List.append_assoc, ← List.append_assoc]
        exact List.Perm.append_right _ List.perm_append_comm
    obtain ⟨fz, rs, p, k⟩ := go al
    refine ⟨fz, a :: rs.flatten, ?_, fun F' hF hf => .inr ⟨a, o, vs, ds, rs, e1, e2, c, rfl, k F' hF hf⟩⟩
    rw [e3]
    exact List.Perm.trans List.perm_middle (List.Perm.cons _ p)
theorem Ents.perm {F : Addr → Prop} (p : L.Perm L') : ∀ {fps : List Fp}, Ents F H L fps → ∃ fps' : List Fp, fps'.flatten.Perm fps.flatten ∧ Ents F H L' fps' := by
  induction p with
  | nil => exact fun h => ⟨_, .refl _, h⟩
  | cons x p ih =>
    intro fps h
    cases h with
    | cons a b =>
      obtain ⟨fps', q, k⟩ := ih b
      exact ⟨_ :: fps', by simp only [List.flatten_cons]; exact q.append_left _, .cons a k⟩
  | swap x y l =>
    intro fps h
    cases h with
    | cons a b =>
      cases b with
      | cons b c =>
        refine ⟨_, ?_, .cons b (.cons a c)⟩
        simp only [List.flatten_cons, ← List.append_assoc]
        exact List.Perm.append_right _ List.perm_append_comm
  | trans p q ih1 ih2 =>
    intro fps h
    obtain ⟨f1, q1, k1⟩ := ih1 h
    obtain ⟨f2, q2, k2⟩ := ih2 k1
    exact ⟨f2, q2.trans q1, k2⟩
theorem Sep.perm (h : Sep Xs H L) (p : L.Perm L') : Sep Xs H L' := by
  obtain ⟨F, fps, hF, e, nd, nf⟩ := h
  obtain ⟨fps', q, e'⟩ := e.perm p
  exact ⟨F, fps', hF, e', ((q.append_left Xs).nodup_iff).mpr nd, fun a ha => nf a (((q.append_left Xs).mem_iff).mp ha)⟩
theorem Sep.nil : Sep [] H [] := ⟨fun _ => False, [], fun _ h => h.elim, .nil, by simp, by simp⟩
theorem Sep.drop {e : Ent} (h : Sep Xs H (e :: L)) : Sep Xs H L := by
  obtain ⟨F, fps, hF, en, nd, nf⟩ := h
  cases en with
  | cons a b =>
    rename_i f fs
    have sub : (Xs ++ fs.flatten).Sublist (Xs ++ (f :: fs).flatten) := by
      simp only [List.flatten_cons]
      exact (List.sublist_append_right _ _).append_left _
    exact ⟨F, fs, hF, b, nd.sublist sub, fun a ha => nf a (sub.subset ha)⟩
theorem Sep.dropN : ∀ {M : List Ent}, Sep Xs H (M ++ L) → Sep Xs H L
  | [], h => h
  | _ :: M, h => Sep.dropN (M := M) h.drop
/-- a value that owns nothing -/
theorem Sep.pure {v : V} {n : Nat} {d : D} (h : Sep Xs H L) (k : ∀ F, Fz F H v d) (hc : isC d = false := by rfl) : Sep Xs H ((v, n, d) :: L) := by
  obtain ⟨F, fps, hF, en, nd, nf⟩ := h
  exact ⟨F, [] :: fps, hF, .cons (by cases n; exact ⟨k F, rfl⟩; exact .inl ⟨k F, rfl, hc⟩) en, by simpa using nd, by simpa using nf⟩
theorem Sep.weak {v : V} {n m : Nat} {d : D} (h : Sep Xs H ((v, n, d) :: L)) (hm : m ≤ n) : Sep Xs H ((v, m, d) :: L) := by
  obtain ⟨F, fps, hF, en, nd, nf⟩ := h
  cases en with
  | cons a b =>
    rename_i f fs
    obtain ⟨fz, rest, p, k⟩ := a.weak hm
    have hth := a.there
    simp only [List.flatten_cons] at nd nf
    have p2 : (Xs ++ (f ++ fs.flatten)).Perm (fz ++ (Xs ++ (rest ++ fs.flatten))) := by
      refine (List.Perm.append_left Xs (List.Perm.append_right fs.flatten p.symm)).trans ?_
      simp only [List.append_assoc]
      rw [← List.append_assoc, ← List.append_assoc fz]
      exact List.Perm.append_right _ List.perm_append_comm
    have nd2 := (p2.nodup_iff).mp nd
    rw [List.nodup_append] at nd2
    refine ⟨fun a => F a ∨ a ∈ fz, rest :: fs, ?_, .cons (k _ (fun _ h => .inl h) fun _ h => .inr h) (b.mono (fun _ h => .inl h) (fun _ _ _ e => e) fun _ _ _ e => e), ?_, ?_⟩
    · rintro a (h | h)
      · exact hF a h
      · exact hth a (p.mem_iff.mp (List.mem_append_left _ h))
    · simp only [List.flatten_cons]; exact nd2.2.1
    · intro a ha
      simp only [List.flatten_cons] at ha
      rintro (h | h)
      · exact nf a (p2.mem_iff.mpr (List.mem_append_right _ ha)) h
      · exact nd2.2.2 a h a ha rfl
theorem Sep.freeze {v : V} {n : Nat} {d : D} (h : Sep Xs H ((v, n, d) :: L)) : Sep Xs H ((v, 0, d) :: L) := h.weak (Nat.zero_le _)
/-- what is frozen may be said again -/
theorem Sep.dup {v : V} {d : D} (h : Sep Xs H ((v, 0, d) :: L)) : Sep Xs H ((v, 0, d) :: (v, 0, d) :: L) := by
  obtain ⟨F, fps, hF, en, nd, nf⟩ := h
  cases en with
  | cons a b =>
    obtain ⟨a, rfl⟩ := a
    exact ⟨F, [] :: [] :: _, hF, .cons ⟨a, rfl⟩ (.cons ⟨a, rfl⟩ b), by simpa using nd, by simpa using nf⟩
/-- the heap changes where nothing of ours stands -/
theorem Sep.upd {x : Addr} {o : HO} (h : Sep Xs H L) (hx : H x = none ∨ x ∈ Xs) : Sep Xs (L2.upd H x o) L := by
  obtain ⟨F, fps, hF, en, nd, nf⟩ := h
  have nx : ∀ a, (F a ∨ a ∈ fps.flatten) → a ≠ x := by
    rintro a h rfl
    rcases hx with e | e
    · rcases h with h | h
      · exact hF _ h e
      · exact en.there _ h e
    · rcases h with h | h
      · exact nf _ (List.mem_append_left _ e) h
      · rw [List.nodup_append] at nd
        exact nd.2.2 _ e _ h rfl
  refine ⟨F, fps, fun a ha => ?_, en.mono (fun _ h => h) (fun a o ha e => ?_) (fun a ha o e => ?_), nd, nf⟩
  · rw [upd_ne (nx a (.inl ha))]; exact hF a ha
  · rw [upd_ne (nx a (.inl ha))]; exact e
  · rw [upd_ne (nx a (.inr ha))]; exact e
/-- a new address is none of ours -/
theorem Sep.excl {x : Addr} (h : Sep Xs H L) (hx : H x = none) (hn : x ∉ Xs) : Sep (x :: Xs) H L := by
  obtain ⟨F, fps, hF, en, nd, nf⟩ := h
  refine ⟨F, fps, hF, en, ?_, ?_⟩
  · rw [List.cons_append, List.nodup_cons]
    refine ⟨fun z => ?_, nd⟩
    rcases List.mem_append.mp z with z | z
    · exact hn z
    · exact en.there _ z hx
  · rintro a ha z
    rcases List.mem_cons.mp ha with e | ha
    · subst e; exact hF _ z hx
    · exact nf a ha z
def entsOf (n : Nat) (vs : List V) (ds : List D) : List Ent := (vs.zip ds).map fun p => (p.1, n, p.2)
theorem ents_of_all3 {F : Addr → Prop} {n : Nat} : ∀ {vs : List V} {ds : List D} {fps gps : List Fp}, All3 (Own F H n) vs ds fps → Ents F H L gps → Ents F H (entsOf n vs ds ++ L) (fps ++ gps)
  | _, _, _, _, .nil, b => b
  | _, _, _, _, .cons a r, b => .cons a (ents_of_all3 r b)
theorem all3_of_ents {F : Addr → Prop} {n : Nat} : ∀ {vs : List V} {ds : List D} {fps : List Fp}, vs.length = ds.length → Ents F H (entsOf n vs ds ++ L) fps → ∃ f g, fps = f ++ g ∧ All3 (Own F H n) vs ds f ∧ Ents F H L g
  | [], [], fps, _, h => ⟨[], fps, rfl, .nil, h⟩
  | v :: vs, d :: ds, _, hl, .cons a r => by
    obtain ⟨f, g, e, h1, h2⟩ := all3_of_ents (by simpa using hl) r
    exact ⟨_ :: f, g, by rw [e]; rfl, .cons a h1, h2⟩
/-- an owned container opened -/
theorem Sep.open_ {v : V} {n : Nat} {d : D} (h : Sep Xs H ((v, n + 1, d) :: L)) : isC d = false ∨
    ∃ a o vs ds, v = .ref a ∧ H a = some o ∧ Cont o d vs ds ∧ vs.length = ds.length ∧ Sep (a :: Xs) H (entsOf n vs ds ++ L) := by
  obtain ⟨F, fps, hF, en, nd, nf⟩ := h
  cases en with
  | cons a b =>
    rename_i f fs
    rcases a with ⟨a, rfl, nc⟩ | ⟨a, o, vs, ds, fps, e1, e2, c, e3, al⟩
    · exact .inl nc
    · subst e3
      have hl : vs.length = ds.length := by
        clear e2 c nd nf
        induction al with
        | nil => rfl
        | cons _ _ ih => simp [ih]
      have p : (Xs ++ ((a :: fps.flatten) :: fs).flatten).Perm (a :: Xs ++ (fps ++ fs).flatten) := by
        simp only [List.flatten_cons, List.flatten_append, List.cons_append]
        exact List.perm_middle
      exact .inr ⟨a, o, vs, ds, e1, e2, c, hl, F, fps ++ fs, hF, ents_of_all3 al b, (p.nodup_iff).mp nd, fun x hx => nf x (p.mem_iff.mpr hx)⟩
/-- .. and closed, with another content -/
theorem Sep.close {a : Addr} {o : HO} {n : Nat} {d : D} {vs : List V} {ds : List D} (h : Sep (a :: Xs) H (entsOf n vs ds ++ L)) (hl : vs.length = ds.length) (c : Cont o d vs ds) : Sep Xs (L2.upd H a o) ((.ref a, n + 1, d) :: L) := by
  have h' := h.upd (x := a) (o := o) (.inr List.mem_cons_self)
  obtain ⟨F, fps, hF, en, nd, nf⟩ := h'
  obtain ⟨f, g, rfl, al, b⟩ := all3_of_ents hl en
  have p : (Xs ++ ((a :: f.flatten) :: g).flatten).Perm (a :: Xs ++ (f ++ g).flatten) := by
    simp only [List.flatten_cons, List.flatten_append, List.cons_append]
    exact List.perm_middle
  exact ⟨F, (a :: f.flatten) :: g, hF, .cons (.inr ⟨a, o, vs, ds, f, rfl, upd_same, c, rfl, al⟩) b, (p.nodup_iff).mpr nd, fun x hx => nf x (p.mem_iff.mp hx)⟩
theorem all3_zero {F : Addr → Prop} {H : Hp} : ∀ {vs : List V} {ds : List D} {f : List Fp}, All3 (Own F H 0) vs ds f → ∀ x ∈ f, x = []
  | _, _, _, .nil, x, hx => (by cases hx)
  | _, _, _, .cons p q, x, hx => by
    rcases List.mem_cons.mp hx with e | hx
    · rw [e]; exact p.2
    · exact all3_zero q x hx
/-- a tuple of frozen things -/
theorem Sep.tup {a : Addr} {vs : List V} {ds : List D} (h : Sep (a :: Xs) H (entsOf 0 vs ds ++ L)) (hl : vs.length = ds.length) : Sep Xs (L2.upd H a (.tup vs)) ((.ref a, 0, .tuple ds) :: L) := by
  have h' := h.upd (x := a) (o := .tup vs) (.inr List.mem_cons_self)
  obtain ⟨F, fps, hF, en, nd, nf⟩ := h'
  obtain ⟨f, g, rfl, al, b⟩ := all3_of_ents hl en
  have hz : FzAll F (L2.upd H a (.tup vs)) vs ds := FzAll.of_all3 (fun _ _ _ _ h => h.1) al
  have he : ∀ x ∈ f, x = [] := all3_zero al
  have hf : f.flatten = [] := by simpa using he
  rw [List.flatten_append, hf, List.nil_append] at nd nf
  rw [List.cons_append, List.nodup_cons] at nd
  refine ⟨fun x => F x ∨ x = a, [] :: g, ?_, .cons ⟨.tup (.inr rfl) upd_same (hz.mono (fun _ h => .inl h) fun _ _ _ e => e), rfl⟩ (b.mono (fun _ h => .inl h) (fun _ _ _ e => e) fun _ _ _ e => e), nd.2, ?_⟩
  · rintro x (h | rfl)
    · exact hF x h
    · rw [upd_same]; exact fun z => nomatch z
  · rintro x hx (h | rfl)
    · exact nf x (List.mem_cons_of_mem _ hx) h
    · exact nd.1 hx
end
end Kr

set_option Elab.async false
set_option linter.all false
set_option maxRecDepth 100000
set_option maxHeartbeats 1000000
namespace Kr
open PySem PySem.Spec PyProof.Rows L2

/-! ### the small language -/
inductive O2 | add | sub | mul | fdiv | mod | pow | shl | shr | band
  deriving DecidableEq
inductive OC | eq | ne | lt | le | gt | ge | is | isnot | isin | notin
  deriving DecidableEq
inductive B1 | len | sum | int | maxl | minl | repr | list | tuple | sorted | sset | lset | bitlen | isInt | isBool | isList | isTuple | isStr | isDict | lrange
  deriving DecidableEq
inductive B2 | max | min | index | count
  deriving DecidableEq
mutual
inductive TG
  | name (i : Nat)
  | tup (ts : TGs)
inductive TGs
  | nil
  | cons (t : TG) (ts : TGs)
end
mutual
inductive IE
  | var (i : Nat)
  | cst (c : D)
  | op (o : O2) (a b : IE)
  | neg (a : IE)
  | cmp (o : OC) (a b : IE)
  | chain (o p : OC) (a b c : IE)
  | chain3 (o p q : OC) (a b c d : IE)
  | and (a b : IE)
  | or (a b : IE)
  | not (a : IE)
  | ife (c a b : IE)
  | tup (es : IEs)
  | lst (n : Nat) (es : IEs)
  | ix (a i : IE)
  | sl (a : IE) (lo hi : IP)
  | rev (a : IE)
  | call (f : String) (es : IEs)
  | callk (f : String) (js : List Nat) (es ks : IEs)
  | b1 (f : B1) (a : IE)
  | b2 (f : B2) (a b : IE)
  | mth (f : B2) (a b : IE)
  | pop (i : Nat)
  | popAt (i : Nat) (a : IE)
  | comp (n : Nat) (own : List Nat) (t : TG) (it : II) (c : IE) (e : IE)
  | dnil
  | cn (n : Nat)
inductive IEs
  | nil
  | cons (e : IE) (es : IEs)
inductive IP
  | no
  | ex (e : IE)
inductive II
  | seq (a : IE)
  | range1 (a : IE)
  | range2 (a b : IE)
  | enum (a : IE)
  | zip (a b : IE)
end
mutual
inductive IS
  | asg (i : Nat) (e : IE)
  | tas (l : List Nat) (es : IEs)
  | unp (ts : TGs) (e : IE)
  | app (i : Nat) (e : IE)
  | setix (i : Nat) (a e : IE)
  | ret (e : IE)
  | retm (i : Nat)
  | retn
  | ifs (c : IE) (a b : ISs)
  | for_ (t : TG) (it : II) (b : ISs)
  | whl (n : Nat) (c : IE) (b : ISs)
  | expr (e : IE)
  | raise (c : String) (e : IE)
  | stuck
  | brk
  | cnt
  | pass
inductive ISs
  | nil
  | cons (s : IS) (ss : ISs)
end

/-! ### its meaning -/
inductive Sl
  | un
  | v (n : Nat) (d : D)
abbrev Sg := List Sl
inductive EV
  | dat (n : Nat) (d : D)
  | loc (i : Nat)
inductive R (α : Type)
  | st
  | ok (a : α) (ε : Sg)
  | ex (c : String) (d : D) (ε : Sg)
def R.bind {α β : Type} (r : R α) (f : α → Sg → R β) : R β := match r with
  | .st => .st
  | .ok a ε => f a ε
  | .ex c d ε => .ex c d ε
def ofO {α : Type} (o : Option α) (f : α → R β) : R β := match o with
  | none => .st
  | some a => f a
inductive Out
  | st
  | nx (ε : Sg)
  | rt (n : Nat) (d : D) (ε : Sg)
  | bk (ε : Sg)
  | ct (ε : Sg)
  | ex (c : String) (d : D) (ε : Sg)
def R.out {α : Type} (r : R α) (f : α → Sg → Out) : Out := match r with
  | .st => .st
  | .ok a ε => f a ε
  | .ex c d ε => .ex c d ε
def ofOut {α : Type} (o : Option α) (f : α → Out) : Out := match o with
  | none => .st
  | some a => f a
def sval (ε : Sg) (i : Nat) : Option (Nat × D) := match ε[i]? with
  | some (.v n d) => some (n, d)
  | _ => none
/-- what is read -/
def rs (ε : Sg) : EV → Option D
  | .dat _ d => some d
  | .loc i => (sval ε i).map fun p => p.2
/-- what is read, its items shared -/
def bor (ε : Sg) : EV → Option D
  | .dat _ d => some d
  | .loc i => (sval ε i).bind fun p => if p.1 ≤ 1 then some p.2 else none
/-- what goes elsewhere -/
def esc (ε : Sg) : EV → Option (Nat × D × Sg)
  | .dat n d => some (n, d, ε)
  | .loc i => (sval ε i).map fun p => (0, p.2, ε.set i (.v 0 p.2))

def truD : D → Bool
  | .none => false
  | .bool b => b
  | .int i => i != 0
  | .str x => (x.length : Int) != 0
  | .list xs => !xs.isEmpty
  | .tuple xs => !xs.isEmpty
  | .dict xs => !xs.isEmpty
def truOk : D → Bool
  | .str x => decide (x.length ≤ sizeLine)
  | .dict _ => false
  | _ => true
def scalD : D → Bool
  | .none | .bool _ | .int _ | .str _ => true
  | _ => false
def flatD : D → Bool
  | .none | .bool _ | .int _ | .str _ => true
  | _ => false
def intsD : List D → Option (List Int)
  | [] => some []
  | .int i :: r => (intsD r).map (i :: ·)
  | _ :: _ => none
/-- the number of bits fits -/
def mulOk (i j : Int) : Bool := decide (-(2 ^ 64) < i ∧ i < 2 ^ 64) || decide (-(2 ^ 64) < j ∧ j < 2 ^ 64)
def iop : O2 → Int → Int → Option Int
  | .add, i, j => some (i + j)
  | .sub, i, j => some (i - j)
  | .mul, i, j => if mulOk i j then some (i * j) else none
  | .fdiv, i, j => if 0 < j ∧ j.natAbs.log2 < 9000 then some (i / j) else none
  | .mod, i, j => if 0 < j then some (i % j) else none
  | .pow, i, j => if 0 ≤ j ∧ (Builtin.Int.intBits i : Int) * j ≤ 2 ^ 27 then some (i ^ j.toNat) else none
  | .shl, i, j => if 0 ≤ j ∧ j ≤ 1000000 ∧ i.natAbs < 2 ^ 64 then some (i * 2 ^ j.toNat) else none
  | .shr, i, j => if 0 ≤ j then some (i / 2 ^ j.toNat) else none
  | .band, i, j => some (Builtin.bitAnd i j)
def binop (o : O2) (d e : D) : Option (Nat × D) := match d, e with
  | .int i, .int j => (iop o i j).map fun k => (0, .int k)
  | .list xs, .list ys => if o = .add ∧ xs.length + ys.length ≤ sizeLine then some (1, .list (xs ++ ys)) else none
  | .tuple xs, .tuple ys => if o = .add ∧ xs.length + ys.length ≤ sizeLine then some (0, .tuple (xs ++ ys)) else none
  | .list xs, .int j => if o = .mul ∧ -(2 ^ 63) ≤ j ∧ j < 2 ^ 63 ∧ xs.length * j.toNat ≤ sizeLine then some (1, .list (List.replicate j.toNat xs).flatten) else none
  | .str x, .str y => if o = .add ∧ x.length + y.length ≤ sizeLine then some (0, .str (x ++ y)) else none
  | _, _ => none
def lexI : List Int → List Int → Ordering
  | [], [] => .eq
  | [], _ :: _ => .lt
  | _ :: _, [] => .gt
  | x :: xs, y :: ys => if x = y then lexI xs ys else if x < y then .lt else .gt
def inD (x : D) (xs : List D) : Bool := xs.any fun y => PyData.eqv y x
def isNoneD : D → Bool
  | .none => true
  | _ => false
def isop (d e : D) : Option Bool := match e with
  | .none => some (isNoneD d)
  | .bool b => (match d with
    | .bool a => some (decide (a = b))
    | _ => none)
  | _ => none
def inop (d e : D) : Option Bool := match e with
  | .list xs => if SeqAt.shaped d && SeqAt.shaped (.list xs) then some (inD d xs) else none
  | .tuple xs => if flatD d && xs.all flatD then some (inD d xs) else none
  | _ => none
def iord : OC → Int → Int → Option Bool
  | .lt, i, j => some (decide (i < j))
  | .le, i, j => some (decide (i ≤ j))
  | .gt, i, j => some (decide (j < i))
  | .ge, i, j => some (decide (j ≤ i))
  | _, _, _ => none
def ordop (o : OC) (d e : D) : Option Bool := match d, e with
  | .int i, .int j => iord o i j
  | .tuple xs, .tuple ys => if o = .ge then (intsD xs).bind fun ns => (intsD ys).map fun ms => lexI ns ms != .lt else none
  | _, _ => none
def cmpop (o : OC) (d e : D) : Option Bool := match o with
  | .eq => if SeqAt.shaped d && SeqAt.shaped e then some (PyData.eqv d e) else none
  | .ne => if SeqAt.shaped d && SeqAt.shaped e then some (!PyData.eqv d e) else none
  | .is => isop d e
  | .isnot => (isop d e).map fun b => !b
  | .isin => inop d e
  | .notin => (inop d e).map fun b => !b
  | o => ordop o d e
def getI (d : D) (i : Int) : Option D := match d with
  | .list xs => atI xs i
  | .tuple xs => atI xs i
  | _ => none
def cutD (xs : List D) (lo hi : Option Int) : List D := (xs.drop (HT.sIx xs.length 0 lo)).take (HT.sIx xs.length xs.length hi - HT.sIx xs.length 0 lo)
def slD (d : D) (lo hi : Option Int) : Option (Nat × D) := match d with
  | .list xs => some (1, .list (cutD xs lo hi))
  | .tuple xs => some (0, .tuple (cutD xs lo hi))
  | _ => none
/-- sorting: ints; or fewer than 64 tuples of one length of ints that are not negative -/
def insI (x : Int) : List Int → List Int
  | [] => [x]
  | y :: r => if x ≤ y then x :: y :: r else y :: insI x r
def isortI (xs : List Int) : List Int := xs.foldr insI []
def tupsD : List D → Option (List (List Int))
  | [] => some []
  | .tuple xs :: r => (intsD xs).bind fun ns => (tupsD r).map (ns :: ·)
  | _ :: _ => none
def leL (a b : List Int) : Bool := lexI a b != .gt
def insT (x : List Int) : List (List Int) → List (List Int)
  | [] => [x]
  | y :: r => if leL x y then x :: y :: r else y :: insT x r
def isortT (xs : List (List Int)) : List (List Int) := xs.foldr insT []
def tupD (ns : List Int) : D := .tuple (ns.map PyData.int)
def sortD (xs : List D) : Option (List D) := match intsD xs with
  | some ns => some ((isortI ns).map PyData.int)
  | none => (tupsD xs).bind fun ts => if ts.length < 64 && ts.all (fun t => t.length == (ts.headD []).length && t.all (fun i => decide (0 ≤ i))) && decide (0 < (ts.headD []).length) then some ((isortT ts).map tupD) else none
def insU (x : Int) : List Int → List Int
  | [] => [x]
  | y :: r => if x < y then x :: y :: r else if x = y then y :: r else y :: insU x r
def usort (xs : List Int) : List Int := xs.foldr insU []
mutual
def dictsOk : D → Bool
  | .list xs => dictsOkAll xs
  | .tuple xs => dictsOkAll xs
  | .dict kvs => kvs.isEmpty
  | _ => true
def dictsOkAll : List D → Bool
  | [] => true
  | x :: xs => dictsOk x && dictsOkAll xs
end
def reprOk (d : D) : Bool := d.showable && decide (d.shown.length ≤ sizeLine) && decide (d.depth ≤ 32) && dictsOk d
def rangeD (lo : Int) (n : Nat) : List D := (List.range n).map fun k => .int (lo + (k : Nat))
def rgOk (i : Int) : Bool := decide (-(2 ^ 62) ≤ i ∧ i < 2 ^ 62)
def b1v : B1 → D → Option (Nat × D)
  | .len, .list xs => some (0, .int xs.length)
  | .len, .tuple xs => some (0, .int xs.length)
  | .len, .str x => if x.length ≤ sizeLine then some (0, .int x.length) else none
  | .sum, .list xs => (intsD xs).map fun ns => (0, .int ns.sum)
  | .int, .int i => some (0, .int i)
  | .int, .bool b => some (0, .int (if b then 1 else 0))
  | .maxl, .list xs => (intsD xs).bind fun ns => match ns with
    | [] => none
    | n :: r => some (0, .int (r.foldl max n))
  | .minl, .list xs => (intsD xs).bind fun ns => match ns with
    | [] => none
    | n :: r => some (0, .int (r.foldl min n))
  | .repr, d => if reprOk d = true then some (0, .str d.shown) else none
  | .list, .list xs => some (1, .list xs)
  | .list, .tuple xs => some (1, .list xs)
  | .tuple, .list xs => some (0, .tuple xs)
  | .tuple, .tuple xs => some (0, .tuple xs)
  | .sorted, .list xs => (sortD xs).map fun ys => (1, .list ys)
  | .sset, .list xs => (intsD xs).bind fun ns => if ns.length < 64 then some (1, .list ((usort ns).map PyData.int)) else none
  | .lset, .list xs => (intsD xs).bind fun ns => if ns.length < 64 then some (0, .int ((usort ns).length : Nat)) else none
  | .bitlen, .int i => some (0, .int (Builtin.Int.intBits i : Nat))
  | .isInt, d => some (0, .bool (match d with | .int _ | .bool _ => true | _ => false))
  | .isBool, d => some (0, .bool (match d with | .bool _ => true | _ => false))
  | .isList, d => some (0, .bool (match d with | .list _ => true | _ => false))
  | .isTuple, d => some (0, .bool (match d with | .tuple _ => true | _ => false))
  | .isStr, d => some (0, .bool (match d with | .str _ => true | _ => false))
  | .isDict, d => some (0, .bool (match d with | .dict _ => true | _ => false))
  | .lrange, .int j => if decide (-(2 ^ 62) ≤ j ∧ j ≤ 2 ^ 24) then some (1, .list (rangeD 0 j.toNat)) else none
  | _, _ => none
def findD (x : D) : List D → Nat → Option Nat
  | [], _ => none
  | y :: r, k => if PyData.eqv y x then some k else findD x r (k + 1)
def b2v : B2 → D → D → Option (Nat × D)
  | .max, .int i, .int j => some (0, .int (if j > i then j else i))
  | .min, .int i, .int j => some (0, .int (if j < i then j else i))
  | .index, .list xs, d => if SeqAt.shaped d && SeqAt.shaped (.list xs) then (findD d xs 0).map fun k => (0, .int (k : Nat)) else none
  | .count, .list xs, .int i => (intsD xs).map fun ns => (0, .int (ns.count i : Nat))
  | _, _, _ => none
/-- how an argument is handed -/
inductive PM
  | sh
  | own (n : Nat)
  | io (n : Nat)
inductive CRes
  | ret (n : Nat) (d : D) (io : List D)
  | ex (c : String) (d : D) (io : List D)
/-- what the defs are worth -/
structure Orc where
  modes : String → Option (List PM)
  call : String → List D → Option CRes
def argD (ε : Sg) : List EV → Option (List D)
  | [] => some []
  | x :: r => (rs ε x).bind fun d => (argD ε r).map (d :: ·)
def putIo : List EV → List PM → List D → Sg → Option Sg
  | [], [], [], ε => some ε
  | .loc i :: r, .io n :: ms, d :: ds, ε => putIo r ms ds (ε.set i (.v n d))
  | .dat _ _ :: r, .sh :: ms, ds, ε => putIo r ms ds ε
  | .dat _ _ :: r, .own _ :: ms, ds, ε => putIo r ms ds ε
  | .dat _ _ :: r, .io _ :: ms, _ :: ds, ε => putIo r ms ds ε
  | _, _, _, _ => none
/-- the io slots are there, with their depth -/
def ioOk (ε : Sg) : List EV → List PM → Bool
  | [], [] => true
  | .loc i :: r, .io n :: ms => (match sval ε i with | some (m, _) => m == n && 0 < n | none => false) && ioOk ε r ms && r.all (fun x => match x with | .loc j => i != j | _ => true)
  | .dat k _ :: r, .sh :: ms => k == 0 && ioOk ε r ms
  | .dat k _ :: r, .own n :: ms => k == n && ioOk ε r ms
  | .dat k _ :: r, .io n :: ms => k == n && ioOk ε r ms
  | _, _ => false
def passArg (m : PM) (x : EV) (ε : Sg) : R EV := match m with
  | .sh => ofO (esc ε x) fun (_, d, ε') => .ok (.dat 0 d) ε'
  | .own n => (match x with
    | .dat k d => if n ≤ k then .ok (.dat n d) ε else .st
    | .loc i => ofO (sval ε i) fun (k, d) => if n ≤ k then .ok (.dat n d) (ε.set i .un) else .st)
  | .io n => (match x with
    | .loc i => .ok (.loc i) ε
    | .dat k d => if n ≤ k then .ok (.dat n d) ε else .st)
/-- storing into a target -/
def setSl (Γ : List Nat) (i : Nat) (m : Nat) (d : D) (ε : Sg) : Option Sg := match Γ[i]? with
  | some k => if k ≤ m ∧ k < 1000 then (if i < ε.length then some (ε.set i (.v k d)) else none) else none
  | none => none
mutual
def setTG (Γ : List Nat) : TG → D → Sg → Option Sg
  | .name i, d, ε => setSl Γ i 0 d ε
  | .tup ts, .tuple ds, ε => setTGs Γ ts ds ε
  | .tup ts, .list ds, ε => setTGs Γ ts ds ε
  | .tup _, _, _ => none
def setTGs (Γ : List Nat) : TGs → List D → Sg → Option Sg
  | .nil, [], ε => some ε
  | .cons t ts, d :: ds, ε => (setTG Γ t d ε).bind fun ε' => setTGs Γ ts ds ε'
  | _, _, _ => none
end
def wipeS : List Nat → Sg → Sg
  | [], ε => ε
  | i :: r, ε => (wipeS r ε).set i .un
def tstR (r : R EV) : R Bool := r.bind fun x ε1 => ofO (rs ε1 x) fun d => if truOk d = true then .ok (truD d) ε1 else .st
/-- the parameters' arguments by their places -/
def permG {α : Type} : List Nat → List α → Option (List α)
  | [], _ => some []
  | j :: js, l => (l[j]?).bind fun a => (permG js l).map (a :: ·)
def allSh : List PM → Bool
  | [] => true
  | .sh :: ms => allSh ms
  | _ => false
def compL (f : D → Sg → R (Option (Nat × D))) (n : Nat) : List D → List D → Sg → R (List D)
  | [], acc, ε => .ok acc ε
  | d :: ds, acc, ε => match f d ε with
    | .ok none ε' => compL f n ds acc ε'
    | .ok (some (m, e)) ε' => if n ≤ m ∧ acc.length < sizeLine then compL f n ds (acc ++ [e]) ε' else .st
    | _ => .st
def enumD : List D → Nat → List D
  | [], _ => []
  | d :: r, k => .tuple [.int (k : Nat), d] :: enumD r (k + 1)
def zipD : List D → List D → List D
  | x :: xs, y :: ys => .tuple [x, y] :: zipD xs ys
  | _, _ => []
section
variable (O : Orc) (Γ : List Nat)
mutual
def evalE : IE → Sg → R EV
  | .var i, ε => ofO (sval ε i) fun _ => .ok (.loc i) ε
  | .cst c, ε => .ok (.dat 0 c) ε
  | .op o a b, ε => (evalE a ε).bind fun x ε1 => (evalE b ε1).bind fun y ε2 => ofO (bor ε2 x) fun d => ofO (bor ε2 y) fun e => ofO (binop o d e) fun r => .ok (.dat r.1 r.2) ε2
  | .neg a, ε => (evalE a ε).bind fun x ε1 => ofO (rs ε1 x) fun d => match d with
    | .int i => .ok (.dat 0 (.int (-i))) ε1
    | _ => .st
  | .cmp o a b, ε => (evalE a ε).bind fun x ε1 => (evalE b ε1).bind fun y ε2 => ofO (rs ε2 x) fun d => ofO (rs ε2 y) fun e => ofO (cmpop o d e) fun r => .ok (.dat 0 (.bool r)) ε2
  | .chain o p a b c, ε => (evalE a ε).bind fun x ε1 => (evalE b ε1).bind fun y ε2 => ofO (rs ε2 x) fun d => ofO (rs ε2 y) fun e => ofO (cmpop o d e) fun r =>
      if r = true then (evalE c ε2).bind fun z ε3 => ofO (rs ε3 y) fun e' => ofO (rs ε3 z) fun f => ofO (cmpop p e' f) fun r' => .ok (.dat 0 (.bool r')) ε3 else .ok (.dat 0 (.bool false)) ε2
  | .chain3 o p q a b c d, ε => (evalE a ε).bind fun x ε1 => (evalE b ε1).bind fun y ε2 => ofO (rs ε2 x) fun d1 => ofO (rs ε2 y) fun d2 => ofO (cmpop o d1 d2) fun r =>
      if r = true then (evalE c ε2).bind fun z ε3 => ofO (rs ε3 y) fun d3 => ofO (rs ε3 z) fun d4 => ofO (cmpop p d3 d4) fun r' =>
        if r' = true then (evalE d ε3).bind fun u ε4 => ofO (rs ε4 z) fun d5 => ofO (rs ε4 u) fun d6 => ofO (cmpop q d5 d6) fun r2 => .ok (.dat 0 (.bool r2)) ε4 else .ok (.dat 0 (.bool false)) ε3
      else .ok (.dat 0 (.bool false)) ε2
  | .and a b, ε => (evalE a ε).bind fun x ε1 => ofO (rs ε1 x) fun d => if truOk d = true then (if truD d = true then evalE b ε1 else .ok x ε1) else .st
  | .or a b, ε => (evalE a ε).bind fun x ε1 => ofO (rs ε1 x) fun d => if truOk d = true then (if truD d = true then .ok x ε1 else evalE b ε1) else .st
  | .not a, ε => (evalE a ε).bind fun x ε1 => ofO (rs ε1 x) fun d => if truOk d = true then .ok (.dat 0 (.bool (!truD d))) ε1 else .st
  | .ife c a b, ε => (tstR (evalE c ε)).bind fun t ε1 => if t = true then evalE a ε1 else evalE b ε1
  | .tup es, ε => (evalL 0 es ε).bind fun ds ε1 => if ds.length ≤ sizeLine then .ok (.dat 0 (.tuple ds)) ε1 else .st
  | .lst n es, ε => (evalL n es ε).bind fun ds ε1 => if ds.length ≤ sizeLine then .ok (.dat (n + 1) (.list ds)) ε1 else .st
  | .ix a i, ε => (evalE a ε).bind fun x ε1 => (evalE i ε1).bind fun y ε2 => ofO (rs ε2 y) fun k => match k with
    | .int k => ofO (rs ε2 x) fun d => ofO (getI d k) fun e => if scalD e = true then .ok (.dat 0 e) ε2 else ofO (bor ε2 x) fun _ => .ok (.dat 0 e) ε2
    | _ => .st
  | .sl a lo hi, ε => (evalE a ε).bind fun x ε1 => (evalP lo ε1).bind fun l ε2 => (evalP hi ε2).bind fun h ε3 => ofO (bor ε3 x) fun d => ofO (slD d l h) fun r => .ok (.dat r.1 r.2) ε3
  | .rev a, ε => (evalE a ε).bind fun x ε1 => ofO (bor ε1 x) fun d => match d with
    | .list ds => .ok (.dat 1 (.list ds.reverse)) ε1
    | _ => .st
  | .call f es, ε => ofO (O.modes f) fun ms => (evalA es ms ε).bind fun xs ε1 => if ioOk ε1 xs ms = true then ofO (argD ε1 xs) fun ds => ofO (O.call f ds) fun r => match r with
    | .ret n d io => ofO (putIo xs ms io ε1) fun ε2 => .ok (.dat n d) ε2
    | .ex c d io => ofO (putIo xs ms io ε1) fun ε2 => .ex c d ε2 else .st
  | .callk f js es ks, ε => ofO (O.modes f) fun ms => (evalL 0 es ε).bind fun ds ε1 => (evalL 0 ks ε1).bind fun ds2 ε2 => if allSh ms = true then ofO (permG js (ds ++ ds2)) fun ds' => ofO (O.call f ds') fun r => match r with
    | .ret n d [] => .ok (.dat n d) ε2
    | .ex c d [] => .ex c d ε2
    | _ => .st else .st
  | .b1 f a, ε => (evalE a ε).bind fun x ε1 => ofO (bor ε1 x) fun d => ofO (b1v f d) fun r => .ok (.dat r.1 r.2) ε1
  | .b2 f a b, ε => (evalE a ε).bind fun x ε1 => (evalE b ε1).bind fun y ε2 => ofO (rs ε2 x) fun d => ofO (rs ε2 y) fun e => ofO (b2v f d e) fun r => .ok (.dat r.1 r.2) ε2
  | .mth f a b, ε => (evalE a ε).bind fun x ε1 => ofO (rs ε1 x) fun d0 => match d0 with
    | .list _ => (evalE b ε1).bind fun y ε2 => ofO (rs ε2 x) fun d => ofO (rs ε2 y) fun e => ofO (b2v f d e) fun r => .ok (.dat r.1 r.2) ε2
    | _ => .st
  | .pop i, ε => ofO (sval ε i) fun p => match p with
    | (n + 1, .list xs) => ofO xs.getLast? fun e => .ok (.dat n e) (ε.set i (.v (n + 1) (.list xs.dropLast)))
    | _ => .st
  | .popAt i a, ε => ofO (sval ε i) fun p0 => match p0.2 with
    | .list _ => (evalE a ε).bind fun x ε1 => ofO (rs ε1 x) fun k => match k with
      | .int k => ofO (sval ε1 i) fun p => match p with
        | (n + 1, .list xs) => ofO (ixN xs.length k) fun j => ofO xs[j]? fun e => if xs.length ≤ sizeLine then .ok (.dat n e) (ε1.set i (.v (n + 1) (.list (xs.eraseIdx j)))) else .st
        | _ => .st
      | _ => .st
    | _ => .st
  | .comp n own t it c e, ε => (evalI it ε).bind fun ds ε1 =>
      (compL (fun d ε' => ofO (setTG Γ t d ε') fun ε2 => (tstR (evalE c ε2)).bind fun b ε3 => if b = true then (evalE e ε3).bind fun y ε4 => ofO (esc ε4 y) fun (m, r, ε5) => .ok (some (m, r)) (wipeS own ε5) else .ok none (wipeS own ε3)) n ds [] (wipeS own ε1)).bind fun acc ε2 => .ok (.dat (n + 1) (.list acc)) ε2
  | .dnil, ε => .ok (.dat 1 (.dict [])) ε
  | .cn n, ε => .ok (.dat n .none) ε
def evalL : Nat → IEs → Sg → R (List D)
  | _, .nil, ε => .ok [] ε
  | n, .cons e es, ε => (evalE e ε).bind fun x ε1 => ofO (esc ε1 x) fun (m, d, ε2) => if n ≤ m then (evalL n es ε2).bind fun ds ε3 => .ok (d :: ds) ε3 else .st
def evalA : IEs → List PM → Sg → R (List EV)
  | .nil, [], ε => .ok [] ε
  | .cons e es, m :: ms, ε => (evalE e ε).bind fun x ε1 => (passArg m x ε1).bind fun y ε2 => (evalA es ms ε2).bind fun ys ε3 => .ok (y :: ys) ε3
  | _, _, _ => .st
/-- a slice's part -/
def evalP : IP → Sg → R (Option Int)
  | .no, ε => .ok none ε
  | .ex e, ε => (evalE e ε).bind fun x ε1 => ofO (rs ε1 x) fun d => match d with
    | .int i => .ok (some i) ε1
    | _ => .st
/-- the items of what is walked -/
def evalI : II → Sg → R (List D)
  | .seq a, ε => (evalE a ε).bind fun x ε1 => ofO (esc ε1 x) fun (_, d, ε2) => match d with
    | .list ds => .ok ds ε2
    | .tuple ds => .ok ds ε2
    | _ => .st
  | .range1 a, ε => (evalE a ε).bind fun x ε1 => ofO (rs ε1 x) fun d => match d with
    | .int j => if rgOk j = true then .ok (rangeD 0 j.toNat) ε1 else .st
    | _ => .st
  | .range2 a b, ε => (evalE a ε).bind fun x ε1 => (evalE b ε1).bind fun y ε2 => ofO (rs ε2 x) fun d => ofO (rs ε2 y) fun e => match d, e with
    | .int i, .int j => if rgOk i && rgOk j = true then .ok (rangeD i (j - i).toNat) ε2 else .st
    | _, _ => .st
  | .enum a, ε => (evalE a ε).bind fun x ε1 => ofO (esc ε1 x) fun (_, d, ε2) => match d with
    | .list ds => .ok (enumD ds 0) ε2
    | _ => .st
  | .zip a b, ε => (evalE a ε).bind fun x ε1 => ofO (esc ε1 x) fun (_, d, ε2) => (evalE b ε2).bind fun y ε3 => ofO (esc ε3 y) fun (_, e, ε4) => match d, e with
    | .list xs, .list ys => .ok (zipD xs ys) ε4
    | _, _ => .st
end
end
def forL (f : D → Sg → Out) : List D → Sg → Out
  | [], ε => .nx ε
  | d :: ds, ε => match f d ε with
    | .nx ε' => forL f ds ε'
    | .ct ε' => forL f ds ε'
    | .bk ε' => .nx ε'
    | o => o
def whlL (c : Sg → R Bool) (f : Sg → Out) : Nat → Sg → Out
  | 0, _ => .st
  | n + 1, ε => (c ε).out fun b ε1 => if b = true then (match f ε1 with
    | .nx ε' => whlL c f n ε'
    | .ct ε' => whlL c f n ε'
    | .bk ε' => .nx ε'
    | o => o) else .nx ε1
def Out.seq (o : Out) (f : Sg → Out) : Out := match o with
  | .nx ε => f ε
  | o => o
def setL (Γ : List Nat) : List Nat → List (Nat × D) → Sg → Option Sg
  | [], [], ε => some ε
  | i :: r, (m, d) :: ds, ε => (setSl Γ i m d ε).bind fun ε' => setL Γ r ds ε'
  | _, _, _ => none
section
variable (O : Orc) (Γ : List Nat) (rd : Nat)
def evalT (c : IE) (ε : Sg) : R Bool := tstR (evalE O Γ c ε)
/-- temporaries with the depths that their slots want -/
def evalM : List Nat → IEs → Sg → R (List (Nat × D))
  | [], .nil, ε => .ok [] ε
  | i :: r, .cons e es, ε => (evalE O Γ e ε).bind fun x ε1 => ofO (esc ε1 x) fun (m, d, ε2) => (evalM r es ε2).bind fun ds ε3 => .ok ((m, d) :: ds) ε3
  | _, _, _ => .st
mutual
def exec : IS → Sg → Out
  | .asg i e, ε => (evalE O Γ e ε).out fun x ε1 => ofOut (esc ε1 x) fun (m, d, ε2) => ofOut (setSl Γ i m d ε2) fun ε3 => .nx ε3
  | .tas l es, ε => (evalM O Γ l es ε).out fun ds ε1 => ofOut (setL Γ l ds ε1) fun ε2 => .nx ε2
  | .unp ts e, ε => (evalE O Γ e ε).out fun x ε1 => ofOut (esc ε1 x) fun (_, d, ε2) => match d with
    | .tuple ds => ofOut (setTGs Γ ts ds ε2) fun ε3 => .nx ε3
    | .list ds => ofOut (setTGs Γ ts ds ε2) fun ε3 => .nx ε3
    | _ => .st
  | .app i e, ε => ofOut (sval ε i) fun p0 => match p0.2 with
    | .list _ => (evalE O Γ e ε).out fun x ε1 => ofOut (esc ε1 x) fun (m, d, ε2) => ofOut (sval ε2 i) fun p => match p with
      | (n + 1, .list xs) => if n ≤ m ∧ xs.length < sizeLine then .nx (ε2.set i (.v (n + 1) (.list (xs ++ [d])))) else .st
      | _ => .st
    | _ => .st
  | .setix i a e, ε => (evalE O Γ e ε).out fun x ε1 => ofOut (esc ε1 x) fun (m, d, ε2) => ofOut (sval ε2 i) fun _ => (evalE O Γ a ε2).out fun y ε3 => ofOut (rs ε3 y) fun k => match k with
    | .int k => ofOut (sval ε3 i) fun p => match p with
      | (n + 1, .list xs) => ofOut (ixN xs.length k) fun j => if n ≤ m then .nx (ε3.set i (.v (n + 1) (.list (xs.set j d)))) else .st
      | _ => .st
    | _ => .st
  | .ret e, ε => (evalE O Γ e ε).out fun x ε1 => ofOut (esc ε1 x) fun (m, d, ε2) => if rd ≤ m then .rt rd d ε2 else .st
  | .retm i, ε => ofOut (sval ε i) fun p => if rd ≤ p.1 then .rt rd p.2 (ε.set i .un) else .st
  | .retn, ε => .rt rd .none ε
  | .ifs c a b, ε => (evalT O Γ c ε).out fun t ε1 => if t = true then execs a ε1 else execs b ε1
  | .for_ t it b, ε => (evalI O Γ it ε).out fun ds ε1 => forL (fun d ε' => ofOut (setTG Γ t d ε') fun ε2 => execs b ε2) ds ε1
  | .whl n c b, ε => whlL (evalT O Γ c) (execs b) n ε
  | .expr e, ε => (evalE O Γ e ε).out fun _ ε1 => .nx ε1
  | .raise c e, ε => (evalE O Γ e ε).out fun x ε1 => ofOut (esc ε1 x) fun (_, d, ε2) => .ex c d ε2
  | .stuck, _ => .st
  | .brk, ε => .bk ε
  | .cnt, ε => .ct ε
  | .pass, ε => .nx ε
def execs : ISs → Sg → Out
  | .nil, ε => .nx ε
  | .cons s ss, ε => (exec s ε).seq fun ε' => execs ss ε'
end
end
/-- a def -/
structure Fd where
  /-- parameters: how each is handed -/
  pm : List PM
  /-- all slots: the depth that each keeps -/
  gam : List Nat
  /-- the result's depth -/
  rd : Nat
  body : ISs
def PM.slot : PM → D → Sl
  | .sh, d => .v 0 d
  | .own n, d => .v n d
  | .io n, d => .v n d
def startS : List PM → List D → Nat → Sg
  | m :: ms, d :: ds, k => m.slot d :: startS ms ds (k - 1)
  | _, _, k => List.replicate k .un
/-- what the io parameters hold at the end -/
def ioEnd : List PM → Sg → Option (List D)
  | [], _ => some []
  | .io n :: ms, .v m d :: ε => if m = n then (ioEnd ms ε).map (d :: ·) else none
  | .io _ :: _, _ => none
  | _ :: ms, _ :: ε => ioEnd ms ε
  | _ :: _, [] => none
def runF (O : Orc) (f : Fd) (ds : List D) : Option CRes :=
  if f.pm.length = ds.length ∧ ds.length ≤ f.gam.length then
    match execs O f.gam f.rd f.body (startS f.pm ds f.gam.length) with
    | .nx ε => (ioEnd f.pm ε).map fun io => .ret f.rd .none io
    | .rt n d ε => (ioEnd f.pm ε).map fun io => .ret n d io
    | .ex c d ε => (ioEnd f.pm ε).map fun io => .ex c d io
    | _ => none
  else none
abbrev Tb := String → Option Fd
def callK (T : Tb) : Nat → String → List D → Option CRes
  | 0, _, _ => none
  | k + 1, f, ds => (T f).bind fun fd => runF ⟨fun g => (T g).map (·.pm), callK T k⟩ fd ds
def orc (T : Tb) (k : Nat) : Orc := ⟨fun g => (T g).map (·.pm), callK T k⟩
end Kr

set_option Elab.async false
set_option linter.all false
set_option maxRecDepth 100000
set_option maxHeartbeats 1000000
namespace Kr
open PySem PySem.Spec PyProof.Rows L2

inductive ER : L2.St → Sg → List Ent → Prop
  | nil : ER [] [] []
  | un {o : Option V} {σ : L2.St} {ε : Sg} {E : List Ent} : ER σ ε E → ER (o :: σ) (.un :: ε) ((.non, 0, .none) :: E)
  | v {x : V} {n : Nat} {d : D} {σ : L2.St} {ε : Sg} {E : List Ent} : ER σ ε E → ER (some x :: σ) (.v n d :: ε) ((x, n, d) :: E)
def State (σ : L2.St) (ε : Sg) (T : List Ent) (H : Hp) : Prop := ∃ E, ER σ ε E ∧ Sep [] H (E ++ T)

section
variable {σ : L2.St} {ε : Sg} {T T' M M' : List Ent} {H H' : Hp} {x y : V} {n m i : Nat} {d e : D}
theorem ER.len : ∀ {σ : L2.St} {ε : Sg} {E : List Ent}, ER σ ε E → σ.length = ε.length
  | _, _, _, .nil => rfl
  | _, _, _, .un h => by simp [h.len]
  | _, _, _, .v h => by simp [h.len]
theorem State.len (h : State σ ε T H) : σ.length = ε.length := let ⟨_, a, _⟩ := h; a.len
theorem State.permT (h : State σ ε T H) (p : T.Perm T') : State σ ε T' H := let ⟨E, a, b⟩ := h; ⟨E, a, b.perm (p.append_left E)⟩
/-- a step on the first temporaries -/
theorem State.step (h : State σ ε (M ++ T) H) (k : ∀ L, Sep [] H (M ++ L) → Sep [] H' (M' ++ L)) : State σ ε (M' ++ T) H' := by
  obtain ⟨E, a, b⟩ := h
  refine ⟨E, a, ?_⟩
  have p : ∀ M : List Ent, (E ++ (M ++ T)).Perm (M ++ (E ++ T)) := fun M => by
    rw [← List.append_assoc, ← List.append_assoc]
    exact List.Perm.append_right _ List.perm_append_comm
  exact (k _ (b.perm (p M))).perm (p M').symm
theorem State.step1 {e : Ent} {M' : List Ent} (h : State σ ε (e :: T) H) (k : ∀ L, Sep [] H (e :: L) → Sep [] H' (M' ++ L)) : State σ ε (M' ++ T) H' := h.step (M := [e]) k
theorem State.drop {e : Ent} (h : State σ ε (e :: T) H) : State σ ε T H := h.step1 (M' := []) fun _ s => s.drop
theorem State.dropN (h : State σ ε (M ++ T) H) : State σ ε T H := h.step (M' := []) fun _ s => s.dropN
theorem State.pure (h : State σ ε T H) (k : ∀ F, Fz F H x d) (hc : isC d = false := by rfl) : State σ ε ((x, n, d) :: T) H := by
  obtain ⟨E, a, b⟩ := h
  exact ⟨E, a, (b.pure (n := n) k hc).perm (List.perm_middle.symm)⟩
theorem State.weak (h : State σ ε ((x, n, d) :: T) H) (hm : m ≤ n) : State σ ε ((x, m, d) :: T) H := h.step1 (M' := [(x, m, d)]) fun _ s => s.weak hm
theorem State.dup (h : State σ ε ((x, 0, d) :: T) H) : State σ ε ((x, 0, d) :: (x, 0, d) :: T) H := h.step1 (M' := [(x, 0, d), (x, 0, d)]) fun _ s => s.dup
theorem State.swap {a b : Ent} (h : State σ ε (a :: b :: T) H) : State σ ε (b :: a :: T) H := h.permT (List.Perm.swap b a T)
theorem State.bring {e : Ent} (h : State σ ε (M ++ e :: T) H) : State σ ε (e :: (M ++ T)) H := h.permT List.perm_middle
/-- a slot's value, taken out -/
theorem State.take (h : State σ ε T H) (e : sval ε i = some (n, d)) : ∃ x, σ[i]? = some (some x) ∧ State σ (ε.set i .un) ((x, n, d) :: T) H := by
  obtain ⟨E, a, b⟩ := h
  have go : ∀ {σ : L2.St} {ε : Sg} {E : List Ent} {i : Nat}, ER σ ε E → sval ε i = some (n, d) → ∃ x E', σ[i]? = some (some x) ∧ ER σ (ε.set i .un) E' ∧ ∀ T, (∀ Xs H, Sep Xs H (E ++ T) → Sep Xs H (E' ++ (x, n, d) :: T)) := by
    intro σ ε E i h
    induction h generalizing i with
    | nil => intro e; simp [sval] at e
    | un h ih =>
      intro e
      cases i with
      | zero => simp [sval] at e
      | succ i =>
        obtain ⟨x, E', h1, h2, h3⟩ := ih (i := i) (by simpa [sval] using e)
        refine ⟨x, _ :: E', by simpa using h1, ER.un h2, fun T Xs H s => ?_⟩
        exact (h3 T Xs H s.drop).pure (n := 0) (fun _ => .non)
    | @v y k c σ ε E h ih =>
      intro e
      cases i with
      | zero =>
        simp [sval] at e
        obtain ⟨rfl, rfl⟩ := e
        exact ⟨_, (.non, 0, .none) :: E, rfl, .un h, fun T Xs H s => (s.perm List.perm_middle.symm).pure (n := 0) (fun _ => .non)⟩
      | succ i =>
        obtain ⟨x, E', h1, h2, h3⟩ := ih (i := i) (by simpa [sval] using e)
        refine ⟨x, _ :: E', by simpa using h1, ER.v h2, fun T Xs H s => ?_⟩
        have s1 : Sep Xs H (E ++ ((y, k, c) :: T)) := s.perm List.perm_middle.symm
        have s2 := h3 _ Xs H s1
        refine s2.perm ?_
        refine (List.Perm.append_left _ (List.Perm.swap _ _ _)).trans ?_
        exact List.perm_middle
  obtain ⟨x, E', h1, h2, h3⟩ := go a e
  exact ⟨x, h1, E', h2, h3 T _ _ b⟩
/-- a temporary, put into a slot -/
theorem State.put (h : State σ ε ((x, n, d) :: T) H) (hi : i < ε.length) : State (σ.set i (some x)) (ε.set i (.v n d)) T H := by
  obtain ⟨E, a, b⟩ := h
  have go : ∀ {σ : L2.St} {ε : Sg} {E : List Ent} {i : Nat}, ER σ ε E → i < ε.length → ∃ E', ER (σ.set i (some x)) (ε.set i (.v n d)) E' ∧ ∀ T, (∀ Xs H, Sep Xs H (E ++ (x, n, d) :: T) → Sep Xs H (E' ++ T)) := by
    intro σ ε E i h
    induction h generalizing i with
    | nil => intro e; simp at e
    | @un o σ ε E h ih =>
      intro e
      cases i with
      | zero => exact ⟨_, .v h, fun T Xs H s => (s.drop).perm List.perm_middle⟩
      | succ i =>
        obtain ⟨E', h2, h3⟩ := ih (i := i) (by simpa using e)
        exact ⟨_ :: E', .un h2, fun T Xs H s => (h3 T Xs H s.drop).pure (n := 0) (fun _ => .non)⟩
    | @v y k c σ ε E h ih =>
      intro e
      cases i with
      | zero => exact ⟨_, .v h, fun T Xs H s => (s.drop).perm List.perm_middle⟩
      | succ i =>
        obtain ⟨E', h2, h3⟩ := ih (i := i) (by simpa using e)
        refine ⟨_ :: E', .v h2, fun T Xs H s => ?_⟩
        have s1 : Sep Xs H (E ++ ((x, n, d) :: ((y, k, c) :: T))) := by
          refine s.perm ?_
          refine List.perm_middle.symm.trans (List.Perm.append_left _ ?_)
          exact List.Perm.swap _ _ _
        exact (h3 _ Xs H s1).perm List.perm_middle
  obtain ⟨E', h2, h3⟩ := go a hi
  exact ⟨E', h2, h3 T _ _ b⟩
/-- a slot forgotten -/
theorem State.wipe1 (h : State σ ε T H) (i : Nat) : State σ (ε.set i .un) T H := by
  cases e : sval ε i with
  | some p => exact let ⟨_, _, q⟩ := h.take (n := p.1) (d := p.2) e; q.drop
  | none =>
    have : ε.set i .un = ε := by
      apply List.ext_getElem?
      intro j
      by_cases hj : i = j
      · subst hj
        unfold sval at e
        cases q : ε[i]? with
        | none => rw [List.getElem?_set_self']; simp [q]
        | some s =>
          rw [q] at e
          cases s with
          | un => rw [List.getElem?_set_self']; simp [q]
          | v n d => cases e
      · rw [List.getElem?_set_ne hj]
    rw [this]; exact h
theorem set_same {σ : L2.St} (h : σ[i]? = some (some x)) : σ.set i (some x) = σ := by
  apply List.ext_getElem?
  intro j
  by_cases hj : i = j
  · subst hj; rw [List.getElem?_set_self']; simp [h]
  · rw [List.getElem?_set_ne hj]
/-- .. put back where it stood -/
theorem State.put' (h : State σ ε ((x, n, d) :: T) H) (hi : i < ε.length) (hx : σ[i]? = some (some x)) : State σ (ε.set i (.v n d)) T H := by
  have := h.put (i := i) hi
  rwa [set_same hx] at this
theorem sval_lt (e : sval ε i = some (n, d)) : i < ε.length := by
  unfold sval at e
  cases q : ε[i]? with
  | none => rw [q] at e; cases e
  | some s => exact (List.getElem?_eq_some_iff.mp q).1
/-- what a result owns -/
def vE (x : V) : EV → List Ent
  | .dat n d => [(x, n, d)]
  | .loc _ => []
def vL (σ : L2.St) (x : V) : EV → Prop
  | .dat _ _ => True
  | .loc i => σ[i]? = some (some x)
/-- a result is let go elsewhere -/
theorem State.esc {v : EV} {ε' : Sg} (h : State σ ε (vE x v ++ T) H) (hl : vL σ x v) (e : esc ε v = some (n, d, ε')) : State σ ε' ((x, n, d) :: T) H := by
  cases v with
  | dat k c =>
    simp only [Kr.esc, Option.some.injEq, Prod.mk.injEq] at e
    obtain ⟨rfl, rfl, rfl⟩ := e
    exact h
  | loc j =>
    simp only [Kr.esc] at e
    cases q : sval ε j with
    | none => rw [q] at e; cases e
    | some p =>
      rw [q] at e
      simp only [Option.map_some, Option.some.injEq, Prod.mk.injEq] at e
      obtain ⟨rfl, rfl, rfl⟩ := e
      have h' : State σ ε T H := h
      obtain ⟨z, hz, s⟩ := h'.take (n := p.1) (d := p.2) q
      have hz' : σ[j]? = some (some x) := hl
      rw [hz'] at hz
      cases hz
      have s2 := (s.weak (Nat.zero_le _)).dup
      have s3 := s2.swap.put' (i := j) (by rw [List.length_set]; exact sval_lt q) hz'
      rwa [List.set_set] at s3
/-- looking at a result without letting it go: it is as if it were a temporary -/
theorem State.look {v : EV} (h : State σ ε (vE x v ++ T) H) (hl : vL σ x v) (e : rs ε v = some d) {P : Prop} (k : ∀ n σ ε T, State σ ε ((x, n, d) :: T) H → P) : P := by
  cases v with
  | dat n c => cases e; exact k _ _ _ _ h
  | loc j =>
    simp only [rs] at e
    cases q : sval ε j with
    | none => rw [q] at e; cases e
    | some p =>
      rw [q] at e
      cases e
      have h' : State σ ε T H := h
      obtain ⟨z, hz, s⟩ := h'.take (n := p.1) (d := p.2) q
      have hz' : σ[j]? = some (some x) := hl
      rw [hz'] at hz
      cases hz
      exact k _ _ _ _ s
/-- .. its items shared -/
theorem bor_rs {v : EV} (e : bor ε v = some d) : rs ε v = some d := by
  cases v with
  | dat n c => exact e
  | loc j =>
    simp only [bor, rs] at *
    cases q : sval ε j with
    | none => rw [q] at e; cases e
    | some p =>
      rw [q] at e
      simp only [Option.bind_some] at e
      split at e
      · cases e; rfl
      · cases e
end
end Kr

set_option Elab.async false
set_option linter.all false
set_option maxRecDepth 100000
set_option maxHeartbeats 1000000
namespace Kr
open PySem PySem.Spec PyProof.Rows L2
section
variable {F : Addr → Prop} {K : PySem.W.Frag} {H : Hp} {x y : V} {n m : Nat} {d e : D} {fp : Fp} {Xs : Fp} {L : List Ent}
theorem FzAll.length : ∀ {vs : List V} {ds : List D}, FzAll F H vs ds → vs.length = ds.length
  | _, _, .nil => rfl
  | _, _, .cons _ t => by simp [t.length]
theorem Fz.int_ {i : Int} (h : Fz F H x (.int i)) : x = .int i := by
  cases h with
  | int => rfl
  | cont _ _ c _ => cases c
theorem Fz.bool_ {b : Bool} (h : Fz F H x (.bool b)) : x = .bl b := by
  cases h with
  | bl => rfl
  | cont _ _ c _ => cases c
theorem Fz.none_ (h : Fz F H x .none) : x = .non := by
  cases h with
  | non => rfl
  | cont _ _ c _ => cases c
theorem Fz.str_ {z : Str} (h : Fz F H x (.str z)) : x = .str z := by
  cases h with
  | str => rfl
  | cont _ _ c _ => cases c
theorem Fz.list {ds : List D} (h : Fz F H x (.list ds)) : ∃ a vs, x = .ref a ∧ L2.Rd H a (.lst vs) ∧ FzAll F H vs ds := by
  cases h with
  | frz f e al => exact ⟨_, _, rfl, .inr ⟨_, e⟩, al⟩
  | cont f e c al =>
    cases c with
    | lst => exact ⟨_, _, rfl, .inl e, al⟩
theorem Fz.tuple {ds : List D} (h : Fz F H x (.tuple ds)) : ∃ a vs, x = .ref a ∧ H a = some (.tup vs) ∧ FzAll F H vs ds := by
  cases h with
  | tup f e al => exact ⟨_, _, rfl, e, al⟩
  | cont f e c al => cases c
theorem Fz.dict {ps : List (D × D)} (h : Fz F H x (.dict ps)) : ∃ a, x = .ref a ∧ ((∃ kvs, H a = some (.dK kvs)) ∨ ∃ kvs, H a = some (.dT kvs)) := by
  cases h with
  | cont f e c al =>
    cases c with
    | dK => exact ⟨_, rfl, .inl ⟨_, e⟩⟩
    | dT => exact ⟨_, rfl, .inr ⟨_, e⟩⟩
mutual
theorem Fz.dp : ∀ (d : D) (v : V), d.canLay0 = true → Fz F H v d → L2.Dp K H v d
  | .none, _, _, h => by rw [h.none_]; exact .non
  | .bool _, _, _, h => by rw [h.bool_]; exact .bl _
  | .int _, _, _, h => by rw [h.int_]; exact .int _
  | .str _, _, _, h => by rw [h.str_]; exact .str _
  | .list ds, _, hc, h => by
    obtain ⟨a, vs, rfl, r, al⟩ := h.list
    exact .lst (.inl r) (FzAll.dp ds vs (by simpa [PyData.canLay0] using hc) al)
  | .tuple ds, _, hc, h => by
    obtain ⟨a, vs, rfl, r, al⟩ := h.tuple
    exact .tup (.inl (.inl r)) (FzAll.dp ds vs (by simpa [PyData.canLay0] using hc) al)
  | .dict _, _, hc, _ => by cases hc
theorem FzAll.dp : ∀ (ds : List D) (vs : List V), PyData.canLayAll0 ds = true → FzAll F H vs ds → L2.DpAll K H vs ds
  | [], _, _, h => by cases h; exact .nil
  | d :: ds, _, hc, h => by
    cases h with
    | cons a b =>
      simp only [PyData.canLayAll0, Bool.and_eq_true] at hc
      exact .cons (Fz.dp d _ hc.1 a) (FzAll.dp ds _ hc.2 b)
end
/-- seen as frozen -/
theorem Sep.fz (h : Sep Xs H ((x, n, d) :: L)) : ∃ F : Addr → Prop, Fz F H x d := by
  obtain ⟨F, fps, hF, en, nd, nf⟩ := h
  cases en with
  | cons a b => exact ⟨fun _ => True, a.freeze (fun _ _ => trivial) (fun _ _ => trivial)⟩
theorem all3_fz : ∀ {vs : List V} {ds : List D} {f : List Fp}, All3 (Own F H 0) vs ds f → FzAll F H vs ds := FzAll.of_all3 (fun _ _ _ _ h => h.1)
theorem Own.items1 {ds : List D} (hn : n ≤ 1) (h : Own F H n x (.list ds) fp) : ∃ a vs, x = .ref a ∧ L2.Rd H a (.lst vs) ∧ FzAll F H vs ds := by
  cases n with
  | zero => exact h.1.list
  | succ n =>
    have hz : n = 0 := by omega
    subst hz
    rcases h with ⟨h, _, c⟩ | ⟨a, o, vs, es, fps, e1, e2, c, e3, al⟩
    · cases c
    · cases c with
      | lst => exact ⟨a, vs, e1, .inl e2, all3_fz al⟩
theorem Own.itemsT {ds : List D} (h : Own F H n x (.tuple ds) fp) : ∃ a vs, x = .ref a ∧ H a = some (.tup vs) ∧ FzAll F H vs ds := by
  cases n with
  | zero => exact h.1.tuple
  | succ n =>
    rcases h with ⟨h, _, c⟩ | ⟨a, o, vs, es, fps, e1, e2, c, e3, al⟩
    · exact h.tuple
    · cases c
theorem ents_fz {fps : List Fp} : ∀ {vs : List V} {ds : List D}, FzAll F H vs ds → Ents F H L fps → ∃ z, (∀ f ∈ z, f = []) ∧ Ents F H (entsOf 0 vs ds ++ L) (z ++ fps)
  | _, _, .nil, b => ⟨[], by simp, b⟩
  | _, _, .cons a r, b => by
    obtain ⟨z, hz, q⟩ := ents_fz r b
    exact ⟨[] :: z, by simpa using hz, .cons ⟨a, rfl⟩ q⟩
theorem sep_fz {F : Addr → Prop} {fps : List Fp} {vs : List V} {ds : List D} (hF : ∀ a, F a → H a ≠ none) (en : Ents F H L fps) (nd : (Xs ++ fps.flatten).Nodup) (nf : ∀ a ∈ Xs ++ fps.flatten, ¬ F a) (h : FzAll F H vs ds) : Sep Xs H (entsOf 0 vs ds ++ L) := by
  obtain ⟨z, hz, q⟩ := ents_fz h en
  have e : (z ++ fps).flatten = fps.flatten := by
    have hz' : z.flatten = [] := by simpa using hz
    rw [List.flatten_append, hz', List.nil_append]
  exact ⟨F, _, hF, q, by rw [e]; exact nd, by rw [e]; exact nf⟩
theorem Sep.share {ds : List D} (h : Sep Xs H ((x, n, .list ds) :: L)) (hn : n ≤ 1) : ∃ a vs, x = .ref a ∧ L2.Rd H a (.lst vs) ∧ vs.length = ds.length ∧ Sep Xs H (entsOf 0 vs ds ++ (x, n, .list ds) :: L) := by
  obtain ⟨F, fps, hF, en, nd, nf⟩ := h
  cases en with
  | cons a b =>
    obtain ⟨p, vs, e1, r, al⟩ := a.items1 hn
    exact ⟨p, vs, e1, r, al.length, sep_fz hF (.cons a b) nd nf al⟩
theorem Sep.shareT {ds : List D} (h : Sep Xs H ((x, n, .tuple ds) :: L)) : ∃ a vs, x = .ref a ∧ H a = some (.tup vs) ∧ vs.length = ds.length ∧ Sep Xs H (entsOf 0 vs ds ++ (x, n, .tuple ds) :: L) := by
  obtain ⟨F, fps, hF, en, nd, nf⟩ := h
  cases en with
  | cons a b =>
    obtain ⟨p, vs, e1, r, al⟩ := a.itemsT
    exact ⟨p, vs, e1, r, al.length, sep_fz hF (.cons a b) nd nf al⟩
end
section
variable {K : PySem.W.Frag} {σ : L2.St} {ε : Sg} {T M : List Ent} {H H' : Hp} {x y : V} {n m i : Nat} {d e : D} {v : EV}
theorem State.sep (h : State σ ε T H) : ∃ E, Sep [] H (T ++ E) := let ⟨E, _, b⟩ := h; ⟨E, b.perm List.perm_append_comm⟩
theorem State.fz1 (h : State σ ε ((x, n, d) :: T) H) : ∃ F : Addr → Prop, Fz F H x d := let ⟨_, b⟩ := h.sep; b.fz
theorem State.fz (h : State σ ε (vE x v ++ T) H) (hl : vL σ x v) (e : rs ε v = some d) : ∃ F : Addr → Prop, Fz F H x d := h.look hl e fun _ _ _ _ s => s.fz1
theorem State.int_ (h : State σ ε (vE x v ++ T) H) (hl : vL σ x v) {i : Int} (e : rs ε v = some (.int i)) : x = .int i := let ⟨_, q⟩ := h.fz hl e; q.int_
theorem State.bool_ (h : State σ ε (vE x v ++ T) H) (hl : vL σ x v) {b : Bool} (e : rs ε v = some (.bool b)) : x = .bl b := let ⟨_, q⟩ := h.fz hl e; q.bool_
theorem State.dp (h : State σ ε (vE x v ++ T) H) (hl : vL σ x v) (e : rs ε v = some d) (hc : d.canLay0 = true) : L2.Dp K H x d := let ⟨_, q⟩ := h.fz hl e; q.dp d x hc
/-- a step on a result: as a temporary -/
theorem State.onEV (h : State σ ε (vE x v ++ T) H) (hl : vL σ x v) (e : bor ε v = some d) {P : (Ent → List Ent → Hp → Prop)} : ∃ n, (n ≤ 1 ∨ ∃ k, v = .dat k d) ∧ ((∃ k, v = .dat k d ∧ n = k ∧ State σ ε ((x, n, d) :: T) H) ∨ (∃ i, v = .loc i ∧ n ≤ 1 ∧ sval ε i = some (n, d) ∧ σ[i]? = some (some x) ∧ State σ (ε.set i .un) ((x, n, d) :: T) H)) := by
  cases v with
  | dat k c =>
    cases e
    exact ⟨k, .inr ⟨k, rfl⟩, .inl ⟨k, rfl, rfl, h⟩⟩
  | loc i =>
    simp only [bor] at e
    cases q : sval ε i with
    | none => rw [q] at e; cases e
    | some p =>
      rw [q] at e
      simp only [Option.bind_some] at e
      split at e
      · rename_i hp
        cases e
        have h' : State σ ε T H := h
        obtain ⟨z, hz, s⟩ := h'.take (n := p.1) (d := p.2) q
        have hz' : σ[i]? = some (some x) := hl
        rw [hz'] at hz
        cases hz
        exact ⟨p.1, .inl hp, .inr ⟨i, rfl, hp, q, hz', s⟩⟩
      · cases e
theorem State.share {ds : List D} (h : State σ ε (vE x v ++ T) H) (hl : vL σ x v) (e : bor ε v = some (.list ds)) : ∃ a vs, x = .ref a ∧ L2.Rd H a (.lst vs) ∧ vs.length = ds.length ∧ State σ ε (entsOf 0 vs ds ++ T) H := by
  obtain ⟨n, _, q⟩ := h.onEV hl e (P := fun _ _ _ => True)
  rcases q with ⟨k, rfl, rfl, s⟩ | ⟨i, rfl, hn, hs, hx, s⟩
  · have s1 : State σ ε ((x, min n 1, .list ds) :: T) H := s.weak (Nat.min_le_left _ _)
    obtain ⟨E, a, b⟩ := s1
    obtain ⟨p, vs, e1, r, l, q⟩ := (b.perm List.perm_middle).share (Nat.min_le_right _ _)
    refine ⟨p, vs, e1, r, l, ?_⟩
    have s2 : State σ ε ((x, min n 1, .list ds) :: T) H := ⟨E, a, b⟩
    have := s2.step1 (H' := H) (M' := entsOf 0 vs ds) fun L s => ?_
    · exact this
    · obtain ⟨p', vs', e1', r', l', q'⟩ := s.share (Nat.min_le_right _ _)
      rw [e1] at e1'; cases e1'
      have : vs' = vs := by
        rcases r with r | ⟨_, r⟩ <;> rcases r' with r' | ⟨_, r'⟩ <;> (rw [r] at r'; cases r'; try rfl)
      subst this
      exact (q'.perm List.perm_middle).drop
  · obtain ⟨E, a, b⟩ := s
    obtain ⟨p, vs, e1, r, l, q⟩ := (b.perm List.perm_middle).share hn
    have s2 : State σ (ε.set i .un) ((x, n, .list ds) :: T) H := ⟨E, a, b⟩
    refine ⟨p, vs, e1, r, l, ?_⟩
    have := s2.step1 (H' := H) (M' := entsOf 0 vs ds ++ [(x, n, .list ds)]) fun L s => ?_
    · have s3 : State σ (ε.set i .un) ((x, n, .list ds) :: (entsOf 0 vs ds ++ T)) H := by
        refine State.permT this ?_
        simp only [List.append_assoc, List.singleton_append]
        exact List.perm_middle
      have s4 := s3.put' (i := i) (by rw [List.length_set]; exact sval_lt hs) hx
      rw [List.set_set] at s4
      have : ε.set i (.v n (.list ds)) = ε := by
        apply List.ext_getElem?
        intro j
        by_cases hj : i = j
        · subst hj
          unfold sval at hs
          split at hs
          · rename_i k c hk
            cases hs
            rw [List.getElem?_set_self (List.getElem?_eq_some_iff.mp hk).1, hk]
          · cases hs
        · rw [List.getElem?_set_ne hj]
      rwa [this] at s4
    · obtain ⟨p', vs', e1', r', l', q'⟩ := s.share hn
      rw [e1] at e1'; cases e1'
      have : vs' = vs := by
        rcases r with r | ⟨_, r⟩ <;> rcases r' with r' | ⟨_, r'⟩ <;> (rw [r] at r'; cases r'; try rfl)
      subst this
      simpa using q'
end
end Kr

set_option Elab.async false
set_option linter.all false
set_option maxRecDepth 100000
set_option maxHeartbeats 1000000
namespace Kr
open PySem PySem.Spec PyProof.Rows L2
theorem PE.mono {X : Cx} {e : Expr} {t t' : TE} (h : PE X e t) (m : ∀ σ H Q, t' σ H Q → t σ H Q) : PE X e t' := ⟨fun pins s σ H Q I q => h.run pins s σ H Q I (m σ H Q q)⟩
theorem PT.mono {X : Cx} {e : Expr} {t t' : TT} (h : PT X e t) (m : ∀ σ H Q, t' σ H Q → t σ H Q) : PT X e t' := ⟨fun pins s σ H Q I q => h.run pins s σ H Q I (m σ H Q q)⟩
theorem PW.mono {X : Cx} {e : Expr} {t t' : TT} (h : PW X e t) (m : ∀ σ H Q, t' σ H Q → t σ H Q) : PW X e t' := ⟨fun wh pins s σ H Q I q => h.run wh pins s σ H Q I (m σ H Q q)⟩
theorem PA.mono {X : Cx} {e : List Expr} {t t' : TA} (h : PA X e t) (m : ∀ σ H Q, t' σ H Q → t σ H Q) : PA X e t' := ⟨fun pos pins s σ H Q I q => h.run pos pins s σ H Q I (m σ H Q q)⟩
theorem PI.mono {X : Cx} {tg e : Expr} {t t' : TI} (h : PI X tg e t) (m : ∀ σ H Q, t' σ H Q → t σ H Q) : PI X tg e t' := ⟨fun pins s σ H Q I q => h.run pins s σ H Q I (m σ H Q q)⟩
theorem PS.mono {X : Cx} {e : Stmt} {t t' : TS} (h : PS X e t) (m : ∀ D σ H, t' D σ H → t D σ H) : PS X e t' := ⟨fun pins s σ H D I q => h.run pins s σ H D I (m D σ H q)⟩
theorem PSs.mono {X : Cx} {e : List Stmt} {t t' : TS} (h : PSs X e t) (m : ∀ D σ H, t' D σ H → t D σ H) : PSs X e t' := ⟨fun pins s σ H D I q => h.run pins s σ H D I (m D σ H q)⟩
/-- the name of the one field of the program's errors -/
abbrev fVal : Str := "value"
abbrev Cl := String → Value
/-- what a result asks -/
def Rd {α : Type} (cl : Cl) (σ : L2.St) (T : List Ent) (W : WX) (r : R α) (P : α → Sg → Prop) : Prop := match r with
  | .st => False
  | .ok a ε => P a ε
  | .ex c d ε => ∀ (H' : Hp) (dd : Addr) (x : V), H' dd = some (.xd [(fVal, x)]) → State σ ε ((x, 0, d) :: T) H' → W (cl c) (some dd) σ H'
section
variable {α β : Type} {cl : Cl} {σ : L2.St} {T M : List Ent} {W : WX} {H : Hp} {Q : VK}
theorem Rd.imp {r : R α} {P P' : α → Sg → Prop} (h : Rd cl σ T W r P) (k : ∀ a ε, P a ε → P' a ε) : Rd cl σ T W r P' := by
  cases r with
  | st => exact h
  | ok a ε => exact k a ε h
  | ex c d ε => exact h
theorem Rd.more {r : R α} {P : α → Sg → Prop} (h : Rd cl σ T W r P) : Rd cl σ (M ++ T) W r P := by
  cases r with
  | st => exact h
  | ok a ε => exact h
  | ex c d ε => exact fun H' dd x e s => h H' dd x e (State.dropN (M := M) (s.permT (List.perm_middle.symm)))
theorem Rd.bind {r : R α} {f : α → Sg → R β} {P : β → Sg → Prop} (h : Rd cl σ T W (r.bind f) P) : Rd cl σ T W r (fun a ε => Rd cl σ T W (f a ε) P) := by
  cases r with
  | st => exact h
  | ok a ε => exact h
  | ex c d ε => exact h
theorem Rd.ofO {o : Option α} {f : α → R β} {P : β → Sg → Prop} (h : Rd cl σ T W (ofO o f) P) : ∃ a, o = some a ∧ Rd cl σ T W (f a) P := by
  cases o with
  | none => exact h.elim
  | some a => exact ⟨a, rfl, h⟩
theorem Rd.ite {c : Prop} [Decidable c] {r : R α} {P : α → Sg → Prop} (h : Rd cl σ T W (if c then r else .st) P) : c ∧ Rd cl σ T W r P := by
  by_cases hc : c
  · rw [if_pos hc] at h; exact ⟨hc, h⟩
  · rw [if_neg hc] at h; exact h.elim
def PostE (σ : L2.St) (T : List Ent) (Q : VK) : EV → Sg → Prop := fun u ε' => ∀ (H' : Hp) (z : V), State σ ε' (vE z u ++ T) H' → vL σ z u → Q z H'
/-- an expression's reading by its meaning -/
def tE (cl : Cl) (W : WX) (f : Sg → R EV) : TE := fun σ H Q => ∃ ε T, State σ ε T H ∧ Rd cl σ T W (f ε) (PostE σ T Q)
/-- behind one value -/
def Nx1 (cl : Cl) (W : WX) (k : EV → Sg → R EV) (σ : L2.St) (Q : VK) : VK := fun x H => ∃ ε T v, State σ ε (vE x v ++ T) H ∧ vL σ x v ∧ Rd cl σ T W (k v ε) (PostE σ T Q)
def Nx2 (cl : Cl) (W : WX) (k : EV → EV → Sg → R EV) (σ : L2.St) (Q : VK) (x y : V) (H : Hp) : Prop := ∃ ε T v w, State σ ε (vE y w ++ (vE x v ++ T)) H ∧ vL σ x v ∧ vL σ y w ∧ Rd cl σ T W (k v w ε) (PostE σ T Q)
theorem tE.b1 {f : Sg → R EV} {k : EV → Sg → R EV} (h : tE cl W (fun ε => (f ε).bind k) σ H Q) : tE cl W f σ H (Nx1 cl W k σ Q) := by
  obtain ⟨ε, T, s, r⟩ := h
  exact ⟨ε, T, s, r.bind.imp fun v ε1 q H1 x s1 l => ⟨ε1, T, v, s1, l, q⟩⟩
theorem Nx1.b2 {g : Sg → R EV} {k : EV → EV → Sg → R EV} {x : V} (h : Nx1 cl W (fun v ε => (g ε).bind (k v)) σ Q x H) : tE cl W g σ H (Nx2 cl W k σ Q x) := by
  obtain ⟨ε, T, v, s, l, r⟩ := h
  exact ⟨ε, vE x v ++ T, s, r.bind.imp (fun w ε1 q H1 y s1 l1 => ⟨ε1, T, v, w, s1, l, l1, q⟩) |>.more⟩
end
section
variable {σ : L2.St} {ε : Sg} {T M : List Ent} {H H' : Hp} {x y : V} {n m i : Nat} {d e : D} {v w : EV}
theorem State.int2 (s : State σ ε (vE y w ++ (vE x v ++ T)) H) (lx : vL σ x v) (ly : vL σ y w) {a b : Int} (e1 : rs ε v = some (.int a)) (e2 : rs ε w = some (.int b)) : x = .int a ∧ y = .int b :=
  ⟨(s.permT (T' := vE x v ++ (vE y w ++ T)) (by rw [← List.append_assoc, ← List.append_assoc]; exact List.Perm.append_right _ List.perm_append_comm)).int_ lx e1, s.int_ ly e2⟩
theorem State.comm (s : State σ ε (vE y w ++ (vE x v ++ T)) H) : State σ ε (vE x v ++ (vE y w ++ T)) H := s.permT (by rw [← List.append_assoc, ← List.append_assoc]; exact List.Perm.append_right _ List.perm_append_comm)
theorem State.none2 (s : State σ ε (vE y w ++ (vE x v ++ T)) H) : State σ ε T H := (State.dropN s).dropN
theorem State.pint (s : State σ ε T H) (i : Int) : State σ ε (vE (.int i) (.dat 0 (.int i)) ++ T) H := s.pure (fun _ => .int i)
theorem State.pbool (s : State σ ε T H) (b : Bool) : State σ ε (vE (.bl b) (.dat 0 (.bool b)) ++ T) H := s.pure (fun _ => .bl b)
theorem State.pstr (s : State σ ε T H) (b : Str) : State σ ε (vE (.str b) (.dat 0 (.str b)) ++ T) H := s.pure (fun _ => .str b)
theorem State.pnone (s : State σ ε T H) : State σ ε (vE .non (.dat 0 .none) ++ T) H := s.pure (fun _ => .non)
theorem Sep.upN {Xs : Fp} {L : List Ent} (h : Sep Xs H ((x, 0, d) :: L)) (hc : isC d = false) : Sep Xs H ((x, n, d) :: L) := by
  obtain ⟨F, fps, hF, en, nd, nf⟩ := h
  cases en with
  | cons a b =>
    obtain ⟨a, rfl⟩ := a
    exact ⟨F, [] :: _, hF, .cons (by cases n; exact ⟨a, rfl⟩; exact .inl ⟨a, rfl, hc⟩) b, nd, nf⟩
theorem sval_set (q : sval ε i = some (n, d)) : ε.set i (.v n d) = ε := by
  apply List.ext_getElem?
  intro j
  by_cases hj : i = j
  · subst hj
    unfold sval at q
    split at q
    · rename_i k c hk
      cases q
      rw [List.getElem?_set_self (List.getElem?_eq_some_iff.mp hk).1, hk]
    · cases q
  · rw [List.getElem?_set_ne hj]
/-- what is no container is shared freely -/
theorem State.copyF (h : State σ ε (vE x v ++ T) H) (hc : isC d = false) (hl : vL σ x v) (e : rs ε v = some d) : State σ ε ((x, 0, d) :: T) H := by
  cases v with
  | dat k c =>
    cases e
    have s1 : State σ ε ((x, k, d) :: T) H := h
    exact s1.weak (Nat.zero_le _)
  | loc i =>
    simp only [rs] at e
    cases q : sval ε i with
    | none => rw [q] at e; cases e
    | some p =>
      rw [q] at e
      cases p with
      | mk k c =>
      cases e
      have h' : State σ ε T H := h
      obtain ⟨z, hz, s⟩ := h'.take (n := k) (d := c) q
      have hz' : σ[i]? = some (some x) := hl
      rw [hz'] at hz
      cases hz
      have s2 := (s.weak (Nat.zero_le _)).dup
      have s3 : State σ (ε.set i .un) ((x, k, c) :: (x, 0, c) :: T) H := s2.step1 (M' := [(x, k, c)]) fun L q => q.upN hc
      have s4 := s3.put' (i := i) (by rw [List.length_set]; exact sval_lt q) hz'
      rw [List.set_set, sval_set q] at s4
      exact s4
/-- a new list -/
theorem State.newL {vs : List V} {ds : List D} {p : Addr} (s : State σ ε (entsOf n vs ds ++ T) H) (hl : vs.length = ds.length) (hp : H p = none) : State σ ε ((.ref p, n + 1, .list ds) :: T) (L2.upd H p (.lst vs)) :=
  s.step (M := entsOf n vs ds) (M' := [(.ref p, n + 1, .list ds)]) fun L q => (q.excl hp (by simp)).close (o := .lst vs) hl (.lst vs ds)
theorem State.newT {vs : List V} {ds : List D} {p : Addr} (s : State σ ε (entsOf 0 vs ds ++ T) H) (hl : vs.length = ds.length) (hp : H p = none) : State σ ε ((.ref p, 0, .tuple ds) :: T) (L2.upd H p (.tup vs)) :=
  s.step (M := entsOf 0 vs ds) (M' := [(.ref p, 0, .tuple ds)]) fun L q => (q.excl hp (by simp)).tup hl
theorem State.newD {p : Addr} (s : State σ ε T H) (hp : H p = none) : State σ ε ((.ref p, n + 1, .dict []) :: T) (L2.upd H p (.dK [])) :=
  s.step (M := []) (M' := [(.ref p, n + 1, .dict [])]) fun L q => Sep.close (vs := []) (ds := []) (q.excl hp (by simp)) rfl (Cont.dK [] [] rfl)
/-- a new object that nobody asks after -/
theorem State.newX {p : Addr} {o : HO} (s : State σ ε T H) (hp : H p = none) : State σ ε T (L2.upd H p o) :=
  s.step (M := []) (M' := []) fun L q => q.upd (.inl hp)
theorem State.shareT {ds : List D} (h : State σ ε (vE x v ++ T) H) (hl : vL σ x v) (e : rs ε v = some (.tuple ds)) : ∃ a vs, x = .ref a ∧ H a = some (.tup vs) ∧ vs.length = ds.length ∧ State σ ε (entsOf 0 vs ds ++ T) H := by
  cases v with
  | dat k c =>
    cases e
    have s1 : State σ ε ((x, k, .tuple ds) :: T) H := h
    obtain ⟨E, a, b⟩ := s1
    obtain ⟨p, vs, e1, r, l, q⟩ := (b.perm List.perm_middle).shareT
    have s2 : State σ ε ((x, k, .tuple ds) :: T) H := ⟨E, a, b⟩
    refine ⟨p, vs, e1, r, l, ?_⟩
    refine s2.step1 (H' := H) (M' := entsOf 0 vs ds) fun L s => ?_
    obtain ⟨p', vs', e1', r', l', q'⟩ := s.shareT
    rw [e1] at e1'; cases e1'
    rw [r] at r'; cases r'
    exact (q'.perm List.perm_middle).drop
  | loc i =>
    simp only [rs] at e
    cases q : sval ε i with
    | none => rw [q] at e; cases e
    | some p =>
      rw [q] at e
      cases p with
      | mk k c =>
      cases e
      have h' : State σ ε T H := h
      obtain ⟨z, hz, s⟩ := h'.take (n := k) (d := .tuple ds) q
      have hz' : σ[i]? = some (some x) := hl
      rw [hz'] at hz
      cases hz
      have s2 := s
      obtain ⟨E, a, b⟩ := s
      obtain ⟨p, vs, e1, r, l, q'⟩ := (b.perm List.perm_middle).shareT
      refine ⟨p, vs, e1, r, l, ?_⟩
      have := s2.step1 (H' := H) (M' := entsOf 0 vs ds ++ [(x, k, .tuple ds)]) fun L s => ?_
      · have s3 : State σ (ε.set i .un) ((x, k, .tuple ds) :: (entsOf 0 vs ds ++ T)) H := by
          refine State.permT this ?_
          simp only [List.append_assoc, List.singleton_append]
          exact List.perm_middle
        have s4 := s3.put' (i := i) (by rw [List.length_set]; exact sval_lt q) hz'
        rw [List.set_set] at s4
        have hs : ε.set i (.v k (.tuple ds)) = ε := by
          apply List.ext_getElem?
          intro j
          by_cases hj : i = j
          · subst hj
            unfold sval at q
            split at q
            · rename_i k c hk
              cases q
              rw [List.getElem?_set_self (List.getElem?_eq_some_iff.mp hk).1, hk]
            · cases q
          · rw [List.getElem?_set_ne hj]
        rwa [hs] at s4
      · obtain ⟨p', vs', e1', r', l', q''⟩ := s.shareT
        rw [e1] at e1'; cases e1'
        rw [r] at r'; cases r'
        simpa using q''
end
end Kr

set_option Elab.async false
set_option linter.all false
set_option maxRecDepth 100000
set_option maxHeartbeats 2000000
namespace Kr
open PySem PySem.Spec PyProof.Rows L2
section
variable {X : Cx}
def rCatR : R2 := fun x y H Q => ∃ l b xs zs, x = .ref l ∧ y = .ref b ∧ L2.Rd H l (.lst xs) ∧ L2.Rd H b (.lst zs) ∧ xs.length + zs.length ≤ sizeLine ∧ ∀ p, H p = none → Q (.ref p) (L2.upd H p (.lst (xs ++ zs)))
theorem op_catR : OpR X (binaryOp .Add) rCatR := by
  intro pins s σ H x y v u Q I rx ry h
  obtain ⟨l, b, xs, zs, rfl, rfl, hH, hB, hz, q⟩ := h
  cases rx
  cases ry
  obtain ⟨z1, its1, n1, r1, e1⟩ := hH.ok I.hok
  obtain ⟨z2, its2, n2, r2, e2⟩ := hB.ok I.hok
  have l1 := r1.length
  have l2 := r2.length
  refine PySem.P.add_list e1 e2 ?_ (by rw [List.size_toArray, List.size_toArray]; omega)
  rw [show its1.toArray ++ its2.toArray = (its1 ++ its2).toArray by simp]
  exact ⟨.ref _, _, I.lnew (t' := s.toks) (r1.append r2) (by rw [List.length_append]; omega), rfl, q _ I.fresh⟩
def rRepR : R2 := fun x y H Q => ∃ l k xs, x = .ref l ∧ y = .int k ∧ L2.Rd H l (.lst xs) ∧ -(2 ^ 63) ≤ k ∧ k < 2 ^ 63 ∧ xs.length * k.toNat ≤ sizeLine ∧
  ∀ p, H p = none → Q (.ref p) (L2.upd H p (.lst (List.replicate k.toNat xs).flatten))
theorem op_repR : OpR X (binaryOp .Mult) rRepR := by
  intro pins s σ H x y v u Q I rx ry h
  obtain ⟨l, k, xs, rfl, rfl, hH, h1, h2, hz, q⟩ := h
  cases rx
  obtain ⟨tk, rfl⟩ := ry
  obtain ⟨z, its, n, r, e⟩ := hH.ok I.hok
  have hl := r.length
  have hsz : its.toArray.size * k.toNat ≤ sizeLine := by rw [List.size_toArray, ← hl]; exact hz
  have hc : ¬ its.toArray.size * k.toNat > (2 ^ 63 - 1) / 8 := by
    have b : (sizeLine : Nat) ≤ (2 ^ 63 - 1) / 8 := by decide
    omega
  have hf : ¬ (!Builtin.List.listFitsIndex k) = true := by
    rw [fitsIndex_both h1 h2]; exact Bool.false_ne_true
  have hg : ¬ Builtin.List.listTooLong (its.toArray.size * k.toNat) = true := by
    rw [notLongL hsz]; exact Bool.false_ne_true
  have hw : List.foldl (fun x1 x2 => x1 ++ x2) #[] (List.replicate (if its.toArray.isEmpty = true then 0 else k.toNat) its.toArray) = (List.replicate k.toNat its).flatten.toArray := by
    have g : ∀ m : Nat, List.foldl (fun x1 x2 => x1 ++ x2) #[] (List.replicate m its.toArray) = (List.replicate m its).flatten.toArray := fun m => by
      have q := foldl_rep its m []
      rwa [List.nil_append] at q
    rw [g]
    cases its with
    | nil => simp
    | cons a r' => rw [if_neg (by simp)]
  refine wpAny_binaryOp_repeat_ref (T := "list") (U := "int") (by decide) ⟨_, e, rfl⟩ (fun s' => typeIs_int s' k tk) noFill_list_mul F.fills_int_mul F.slot_int_rmul repeat_list F.slot_int_index.lookup
    (call_meets F.slot_int_rmul (typeIs_int s k tk) F.entry_int_rmul (F.args_int_rmul_2 _ _) (int___rmul___int_list k tk l its.toArray n)
      ⟨e, rfl, ⟨_, e, rfl⟩, call_meets F.slot_list_mul ⟨_, e, rfl⟩ F.entry_list_mul (F.args_list_mul_2 _ _) (AutoListH.list___mul___list_int_3 l its.toArray n k tk hf hc hg) ⟨e, ?_⟩⟩)
  rw [hw]
  exact ⟨.ref _, _, I.lnew (t' := s.toks) (r.rep k.toNat) (by rw [PyProof.Rows.lm_len_rep_flat, Nat.mul_comm]; exact hz), rfl, q _ I.fresh⟩

/-! ### the operators, over all kinds -/
def opOf : O2 → Operator
  | .add => .Add
  | .sub => .Sub
  | .mul => .Mult
  | .fdiv => .FloorDiv
  | .mod => .Mod
  | .pow => .Pow
  | .shl => .LShift
  | .shr => .RShift
  | .band => .BitAnd
/-- ints -/
def rIop (o : O2) : R2 := fun x y H Q => ∃ i j k, x = .int i ∧ y = .int j ∧ iop o i j = some k ∧ Q (.int k) H
theorem rI_of {f : Value → Value → Sem Value} {C : Int → Int → Prop} {g : Int → Int → Int} {o : O2} (h : OpR X f (rI C fun i j => .int (g i j))) (k : ∀ i j k, iop o i j = some k → C i j ∧ k = g i j) : OpR X f (rIop o) := by
  intro pins s σ H x y v u Q I rx ry q
  obtain ⟨i, j, z, ex, ey, e, q⟩ := q
  obtain ⟨c, rfl⟩ := k i j z e
  exact h pins s σ H x y v u Q I rx ry ⟨i, j, ex, ey, c, q⟩
theorem rI0_of {f : Value → Value → Sem Value} {g : Int → Int → Int} {o : O2} (h : OpR X f (rI0 fun i j => .int (g i j))) (k : ∀ i j k, iop o i j = some k → k = g i j) : OpR X f (rIop o) := by
  intro pins s σ H x y v u Q I rx ry q
  obtain ⟨i, j, z, ex, ey, e, q⟩ := q
  obtain rfl := k i j z e
  exact h pins s σ H x y v u Q I rx ry ⟨i, j, ex, ey, q⟩
theorem op_int (o : O2) : OpR X (binaryOp (opOf o)) (rIop o) := by
  cases o with
  | add => exact rI0_of op_add fun i j k e => by simpa [iop] using e.symm
  | sub => exact rI0_of op_sub fun i j k e => by simpa [iop] using e.symm
  | mul =>
    refine rI_of op_mul fun i j k e => ?_
    simp only [iop] at e
    by_cases h : mulOk i j = true
    · rw [if_pos h] at e
      simp only [mulOk, Bool.or_eq_true, decide_eq_true_eq] at h
      exact ⟨h, by simpa using e.symm⟩
    · rw [if_neg h] at e; cases e
  | fdiv =>
    refine rI_of op_fdivW fun i j k e => ?_
    simp only [iop] at e
    split at e
    · rename_i h
      exact ⟨⟨h.1, h.2⟩, by simpa using e.symm⟩
    · cases e
  | mod =>
    refine rI_of op_mod fun i j k e => ?_
    simp only [iop] at e
    split at e
    · rename_i h
      exact ⟨h, by simpa using e.symm⟩
    · cases e
  | pow =>
    refine rI_of (C := fun i j => 0 ≤ j ∧ (Builtin.Int.intBits i : Int) * j ≤ 2 ^ 27) (g := fun i j => i ^ j.toNat) (opI fun _ _ _ _ _ _ _ hc q => pow_int hc.1 hc.2 q) fun i j k e => ?_
    simp only [iop] at e
    split at e
    · rename_i h
      exact ⟨h, by simpa using e.symm⟩
    · cases e
  | shl =>
    refine rI_of op_shl fun i j k e => ?_
    simp only [iop] at e
    split at e
    · rename_i h
      exact ⟨h, by simpa using e.symm⟩
    · cases e
  | shr =>
    refine rI_of op_shr fun i j k e => ?_
    simp only [iop] at e
    split at e
    · rename_i h
      exact ⟨h, by simpa using e.symm⟩
    · cases e
  | band => exact rI0_of op_and fun i j k e => by simpa [iop] using e.symm
def rBin (K : PySem.W.Frag) (o : O2) : R2 := fun x y H Q => rIop o x y H Q ∨ (o = .add ∧ rCatR x y H Q) ∨ (o = .add ∧ rCatA K x y H Q) ∨ (o = .mul ∧ rRepR x y H Q) ∨
  (o = .add ∧ ∃ i j, x = .str i ∧ y = .str j ∧ i.length + j.length ≤ sizeLine ∧ Q (.str (i ++ j)) H)
theorem op_bin (o : O2) : OpR X (binaryOp (opOf o)) (rBin X.K o) := by
  intro pins s σ H x y v u Q I rx ry q
  rcases q with q | ⟨rfl, q⟩ | ⟨rfl, q⟩ | ⟨rfl, q⟩ | ⟨rfl, q⟩
  · exact op_int o pins s σ H x y v u Q I rx ry q
  · exact op_catR pins s σ H x y v u Q I rx ry q
  · exact op_catA pins s σ H x y v u Q I rx ry q
  · exact op_repR pins s σ H x y v u Q I rx ry q
  · exact op_add_str pins s σ H x y v u Q I rx ry q
theorem entsOf_app {n : Nat} {vs ws : List V} {ds es : List D} (h : vs.length = ds.length) : entsOf n (vs ++ ws) (ds ++ es) = entsOf n vs ds ++ entsOf n ws es := by
  unfold entsOf
  rw [List.zip_append h, List.map_append]
section
variable {cl : Cl} {W : WX} {σ : L2.St} {Q : VK} {x y : V} {H : Hp} {T M : List Ent} {ε : Sg}
theorem State.permL (s : State σ ε T H) {T' : List Ent} (p : T.Perm T') : State σ ε T' H := s.permT p
theorem share2 {v w : EV} {xs ys : List D} (s : State σ ε (vE y w ++ (vE x v ++ T)) H) (lx : vL σ x v) (ly : vL σ y w) (e1 : bor ε v = some (.list xs)) (e2 : bor ε w = some (.list ys)) :
    ∃ a vs b ws, x = .ref a ∧ L2.Rd H a (.lst vs) ∧ vs.length = xs.length ∧ y = .ref b ∧ L2.Rd H b (.lst ws) ∧ ws.length = ys.length ∧ State σ ε (entsOf 0 vs xs ++ (entsOf 0 ws ys ++ T)) H := by
  obtain ⟨b, ws, ey, rb, lb, s1⟩ := s.share ly e2
  have s2 : State σ ε (vE x v ++ (entsOf 0 ws ys ++ T)) H := s1.permT (by rw [← List.append_assoc, ← List.append_assoc]; exact List.Perm.append_right _ List.perm_append_comm)
  obtain ⟨a, vs, ex, ra, la, s3⟩ := s2.share lx e1
  exact ⟨a, vs, b, ws, ex, ra, la, ey, rb, lb, s3⟩
theorem shareT2 {v w : EV} {xs ys : List D} (s : State σ ε (vE y w ++ (vE x v ++ T)) H) (lx : vL σ x v) (ly : vL σ y w) (e1 : rs ε v = some (.tuple xs)) (e2 : rs ε w = some (.tuple ys)) :
    ∃ a vs b ws, x = .ref a ∧ H a = some (.tup vs) ∧ vs.length = xs.length ∧ y = .ref b ∧ H b = some (.tup ws) ∧ ws.length = ys.length ∧ State σ ε (entsOf 0 vs xs ++ (entsOf 0 ws ys ++ T)) H := by
  obtain ⟨b, ws, ey, rb, lb, s1⟩ := s.shareT ly e2
  have s2 : State σ ε (vE x v ++ (entsOf 0 ws ys ++ T)) H := s1.permT (by rw [← List.append_assoc, ← List.append_assoc]; exact List.Perm.append_right _ List.perm_append_comm)
  obtain ⟨a, vs, ex, ra, la, s3⟩ := s2.shareT lx e1
  exact ⟨a, vs, b, ws, ex, ra, la, ey, rb, lb, s3⟩
theorem ents_rep {n : Nat} {vs : List V} {ds : List D} (hl : vs.length = ds.length) : ∀ k, entsOf n (List.replicate k vs).flatten (List.replicate k ds).flatten = (List.replicate k (entsOf n vs ds)).flatten
  | 0 => rfl
  | k + 1 => by simp only [List.replicate_succ, List.flatten_cons]; rw [entsOf_app hl, ents_rep hl k]
theorem State.dupL : ∀ {T : List Ent} {vs : List V} {ds : List D}, State σ ε (entsOf 0 vs ds ++ T) H → State σ ε (entsOf 0 vs ds ++ (entsOf 0 vs ds ++ T)) H
  | _, [], _, s => by simpa [entsOf] using s
  | _, _ :: _, [], s => by simpa [entsOf] using s
  | T, v :: vs, d :: ds, s => by
    have s1 : State σ ε ((v, 0, d) :: (entsOf 0 vs ds ++ T)) H := s
    have s2 := s1.dup
    have s3 : State σ ε (entsOf 0 vs ds ++ ((v, 0, d) :: (v, 0, d) :: T)) H := s2.permT (by
      refine (List.Perm.cons _ List.perm_middle.symm).trans ?_
      exact List.perm_middle.symm)
    have s4 := State.dupL (vs := vs) (ds := ds) s3
    refine s4.permT ?_
    show (entsOf 0 vs ds ++ (entsOf 0 vs ds ++ ((v, 0, d) :: (v, 0, d) :: T))).Perm ((v, 0, d) :: (entsOf 0 vs ds ++ ((v, 0, d) :: (entsOf 0 vs ds ++ T))))
    refine (List.Perm.append_left _ List.perm_middle).trans ?_
    refine List.perm_middle.trans (List.Perm.cons _ (List.Perm.append_left _ ?_))
    exact List.perm_middle
theorem State.repL {vs : List V} {ds : List D} (s : State σ ε (entsOf 0 vs ds ++ T) H) : ∀ k, State σ ε ((List.replicate k (entsOf 0 vs ds)).flatten ++ (entsOf 0 vs ds ++ T)) H
  | 0 => s
  | k + 1 => by
    have s1 := State.repL s k
    have s2 : State σ ε (entsOf 0 vs ds ++ ((List.replicate k (entsOf 0 vs ds)).flatten ++ T)) H := s1.permT (by rw [← List.append_assoc, ← List.append_assoc]; exact List.Perm.append_right _ List.perm_append_comm)
    have s3 := State.dupL s2
    simp only [List.replicate_succ, List.flatten_cons, List.append_assoc]
    refine s3.permT (List.Perm.append_left _ ?_)
    rw [← List.append_assoc, ← List.append_assoc]
    exact List.Perm.append_right _ List.perm_append_comm
theorem State.drop2 {e : Ent} {M : List Ent} (s : State σ ε (e :: (M ++ T)) H) : State σ ε (e :: T) H := State.dropN (M := M) (s.permT List.perm_middle.symm)
/-- the reading of a binary operation -/
theorem bin_ok {o : O2} {K : PySem.W.Frag} (h : Nx2 cl W (fun v w ε2 => ofO (bor ε2 v) fun d => ofO (bor ε2 w) fun e => ofO (binop o d e) fun r => .ok (.dat r.1 r.2) ε2) σ Q x y H) : rBin K o x y H Q := by
  obtain ⟨ε, T, v, w, s, lx, ly, r0⟩ := h
  obtain ⟨d, h1, r1⟩ := r0.ofO
  obtain ⟨e, h2, r2⟩ := r1.ofO
  obtain ⟨res, h3, r3⟩ := r2.ofO
  have r : PostE σ T Q (.dat res.1 res.2) ε := r3
  clear r0 r1 r2 r3
  unfold binop at h3
  split at h3
  · rename_i i j
    cases q : iop o i j with
    | none => rw [q] at h3; cases h3
    | some k =>
      rw [q] at h3; cases h3
      obtain ⟨ex, ey⟩ := s.int2 lx ly (bor_rs h1) (bor_rs h2)
      exact .inl ⟨i, j, k, ex, ey, q, r H _ (s.none2.pint k) trivial⟩
  · rename_i xs ys
    split at h3
    · rename_i hc
      obtain ⟨rfl, hz⟩ := hc
      cases h3
      obtain ⟨a, vs, b, ws, ex, ra, la, ey, rb, lb, s3⟩ := share2 s lx ly h1 h2
      refine .inr (.inl ⟨rfl, a, b, vs, ws, ex, ey, ra, rb, by omega, fun p hp => r _ _ ?_ trivial⟩)
      have s4 : State σ ε (entsOf 0 (vs ++ ws) (xs ++ ys) ++ T) H := by
        rw [entsOf_app la, List.append_assoc]; exact s3
      exact s4.newL (by simp [la, lb]) hp
    · cases h3
  · rename_i xs ys
    split at h3
    · rename_i hc
      obtain ⟨rfl, hz⟩ := hc
      cases h3
      obtain ⟨a, vs, b, ws, ex, ra, la, ey, rb, lb, s3⟩ := shareT2 s lx ly (bor_rs h1) (bor_rs h2)
      have s4 : State σ ε (entsOf 0 (vs ++ ws) (xs ++ ys) ++ T) H := by
        rw [entsOf_app la, List.append_assoc]; exact s3
      refine .inr (.inr (.inl ⟨rfl, a, b, vs, ws, ex, ey, .inl (.inl ra), .inl (.inl rb), by omega, fun e => ?_, fun _ e => ?_, fun _ _ p hp => r _ _ (s4.newT (by simp [la, lb]) hp) trivial⟩))
      · subst e
        have z : xs = [] := List.eq_nil_of_length_eq_zero (by rw [← la]; rfl)
        subst z ey
        exact r _ _ (s.copyF rfl ly (bor_rs h2)).drop2 trivial
      · subst e
        have z : ys = [] := List.eq_nil_of_length_eq_zero (by rw [← lb]; rfl)
        subst z ex
        rw [List.append_nil] at r
        exact r _ _ (s.comm.copyF rfl lx (bor_rs h1)).drop2 trivial
    · cases h3
  · rename_i xs j
    split at h3
    · rename_i hc
      obtain ⟨rfl, hlo, hhi, hz⟩ := hc
      cases h3
      have ey := s.int_ ly (bor_rs h2)
      have s' : State σ ε (vE x v ++ T) H := s.dropN
      obtain ⟨a, vs, ex, ra, la, s3⟩ := s'.share lx h1
      refine .inr (.inr (.inr (.inl ⟨rfl, a, j, vs, ex, ey, ra, hlo, hhi, (by rw [la]; exact hz), fun p hp => r _ _ ?_ trivial⟩)))
      have s4 := s3.repL j.toNat
      rw [← ents_rep la] at s4
      have s5 : State σ ε (entsOf 0 (List.replicate j.toNat vs).flatten (List.replicate j.toNat xs).flatten ++ T) H := by
        refine State.dropN (M := entsOf 0 vs xs) (s4.permT ?_)
        rw [← List.append_assoc, ← List.append_assoc]; exact List.Perm.append_right _ List.perm_append_comm
      refine s5.newL ?_ hp
      simp [la]
    · cases h3
  · rename_i z1 z2
    split at h3
    · rename_i hc
      obtain ⟨rfl, hz⟩ := hc
      cases h3
      have ey := (s.fz ly (bor_rs h2))
      have ex := (s.comm.fz lx (bor_rs h1))
      obtain ⟨_, ey⟩ := ey
      obtain ⟨_, ex⟩ := ex
      exact .inr (.inr (.inr (.inr ⟨rfl, z1, z2, ex.str_, ey.str_, hz, r H _ (s.none2.pstr _) trivial⟩)))
    · cases h3
  · cases h3
end

/-! ### comparisons -/
def cmpOf : OC → CmpOp
  | .eq => .Eq
  | .ne => .NotEq
  | .lt => .Lt
  | .le => .LtE
  | .gt => .Gt
  | .ge => .GtE
  | .is => .Is
  | .isnot => .IsNot
  | .isin => .In
  | .notin => .NotIn
def rGeT (K : PySem.W.Frag) : R2 := fun x y H Q => ∃ (a b : Addr) (ns ms : List Int), x = .ref a ∧ y = .ref b ∧ SqT K H a (ns.map V.int) ∧ SqT K H b (ms.map V.int) ∧ Q (.bl (lexI ns ms != .lt)) H
theorem lex_ge : ∀ (ns ms : List Int) (i : Nat) (k : Nat), min ns.length ms.length = i + k → (∀ j, j < i → ns.getD j 0 = ms.getD j 0) →
    Ob.lexAt (fun j => decide (ns.getD j 0 = ms.getD j 0)) (fun j => decide (ms.getD j 0 ≤ ns.getD j 0)) (decide (ns.length ≥ ms.length)) i k = (lexI (ns.drop i) (ms.drop i) != .lt) := by
  intro ns ms i k
  induction k generalizing i with
  | zero =>
    intro hm hj
    rw [Ob.lexAt_zero]
    by_cases hl : ns.length ≤ ms.length
    · have hi : i = ns.length := by omega
      have e1 : ns.drop i = [] := List.drop_eq_nil_of_le (by omega)
      rw [e1]
      by_cases hl2 : ns.length = ms.length
      · have e2 : ms.drop i = [] := List.drop_eq_nil_of_le (by omega)
        rw [e2, decide_eq_true (by omega)]; rfl
      · have hne : ms.drop i ≠ [] := fun z => by
          have := congrArg List.length z
          simp at this; omega
        cases q : ms.drop i with
        | nil => exact absurd q hne
        | cons a r => rw [decide_eq_false (by omega)]; rfl
    · have hi : i = ms.length := by omega
      have e2 : ms.drop i = [] := List.drop_eq_nil_of_le (by omega)
      have hne : ns.drop i ≠ [] := fun z => by
        have := congrArg List.length z
        simp at this; omega
      rw [e2, decide_eq_true (by omega)]
      cases q : ns.drop i with
      | nil => exact absurd q hne
      | cons a r => rfl
  | succ k ih =>
    intro hm hj
    have h1 : i < ns.length := by omega
    have h2 : i < ms.length := by omega
    rw [Ob.lexAt_succ, List.drop_eq_getElem_cons h1, List.drop_eq_getElem_cons h2]
    have g1 : ns.getD i 0 = ns[i] := by simp [h1]
    have g2 : ms.getD i 0 = ms[i] := by simp [h2]
    rw [g1, g2]
    unfold lexI
    by_cases e : ns[i] = ms[i]
    · rw [if_pos (decide_eq_true e), if_pos e]
      refine ih (i + 1) (by omega) fun j hji => ?_
      by_cases q : j = i
      · subst q; rw [g1, g2, e]
      · exact hj j (by omega)
    · rw [if_neg (by simpa using e), if_neg e]
      by_cases l : ns[i] < ms[i]
      · rw [if_pos l, decide_eq_false (by omega)]; rfl
      · rw [if_neg l, decide_eq_true (by omega)]; rfl
theorem op_geT (hu : X.A.units < cLine) : OpR X (compareOp .GtE) (rGeT X.K) := by
  intro pins s σ H x y v u Q I rx ry h
  obtain ⟨a, b, ns, ms, rfl, rfl, ha, hb, q⟩ := h
  cases rx
  cases ry
  obtain ⟨its, r1, p1, _⟩ := I.tuple ha
  obtain ⟨its2, r2, p2, _⟩ := I.tuple hb
  have i1 : IntsAre its ns := Vals.ints r1
  have i2 : IntsAre its2 ms := Vals.ints r2
  have z1 : its.toArray.size = ns.length := by rw [List.size_toArray]; exact i1.length
  have z2 : its2.toArray.size = ms.length := by rw [List.size_toArray]; exact i2.length
  have a1 : ∀ j (h1 : j < its.toArray.size), ∃ t, its.toArray[j] = .int (ns.getD j 0) t := fun j h1 => PyProof.Rows.IntsAre.int_at i1 _ _ (by simp at h1; simp [h1])
  have a2 : ∀ j (h1 : j < its2.toArray.size), ∃ t, its2.toArray[j] = .int (ms.getD j 0) t := fun j h1 => PyProof.Rows.IntsAre.int_at i2 _ _ (by simp at h1; simp [h1])
  have R := Ob.RcOp.tuples_ge (A := X.A) (s := s) (e := fun j => decide (ns.getD j 0 = ms.getD j 0)) (r := fun j => decide (ms.getD j 0 ≤ ns.getD j 0)) p1 p2 hu (fun j h1 h2 => by
    obtain ⟨t, et⟩ := a1 j h1
    obtain ⟨t', et'⟩ := a2 j h2
    rw [et, et', show decide (ns.getD j 0 = ms.getD j 0) = (ns.getD j 0 == ms.getD j 0) from Bool.beq_eq_decide_eq .. |>.symm]
    exact SeqAt.EqAt.int_int _ _ _ _) (fun j h1 h2 _ => by
    obtain ⟨t, et⟩ := a1 j h1
    obtain ⟨t', et'⟩ := a2 j h2
    rw [et, et']
    exact Ob.RcOp.ge_int _ _ _ _)
  rw [z1, z2] at R
  have e0 := lex_ge ns ms 0 (min ns.length ms.length) (by omega) (fun j hj => absurd hj (Nat.not_lt_zero _))
  rw [List.drop_zero, List.drop_zero] at e0
  rw [e0] at R
  exact R X.prog X.w X.xe (EP X pins σ Q) ⟨.bl _, H, I, rfl, q⟩
def rOrd (K : PySem.W.Frag) (o : OC) : R2 := fun x y H Q => (∃ i j b, x = .int i ∧ y = .int j ∧ iord o i j = some b ∧ Q (.bl b) H) ∨ (o = .ge ∧ rGeT K x y H Q)
def rCmp (K : PySem.W.Frag) (o : OC) : R2 := match o with
  | .eq => rEqD K
  | .ne => rNeD K
  | .is => fun x y H Q => (y = .non ∧ Q (.bl (decide (x = .non))) H) ∨ ∃ a b, x = .bl a ∧ y = .bl b ∧ Q (.bl (decide (a = b))) H
  | .isnot => fun x y H Q => (y = .non ∧ Q (.bl (!decide (x = .non))) H) ∨ ∃ a b, x = .bl a ∧ y = .bl b ∧ Q (.bl (!decide (a = b))) H
  | .isin => fun x y H Q => rInD K x y H Q ∨ rIn K false x y H Q
  | .notin => fun x y H Q => rNotInD K x y H Q ∨ rIn K true x y H Q
  | o => rOrd K o
theorem ord_ok {o : OC} (hu : X.A.units < cLine) (h : OpR X (compareOp (cmpOf o)) (fun x y H Q => ∃ i j b, x = .int i ∧ y = .int j ∧ iord o i j = some b ∧ Q (.bl b) H)) : OpR X (compareOp (cmpOf o)) (rOrd X.K o) := by
  intro pins s σ H x y v u Q I rx ry q
  rcases q with q | ⟨rfl, q⟩
  · exact h pins s σ H x y v u Q I rx ry q
  · exact op_geT hu pins s σ H x y v u Q I rx ry q
theorem iord_of {f : Value → Value → Sem Value} {g : Int → Int → Bool} {o : OC} (h : OpR X f (rI0 fun i j => .bl (g i j))) (k : ∀ i j, iord o i j = some (g i j)) : OpR X f (fun x y H Q => ∃ i j b, x = .int i ∧ y = .int j ∧ iord o i j = some b ∧ Q (.bl b) H) := by
  intro pins s σ H x y v u Q I rx ry q
  obtain ⟨i, j, b, ex, ey, e, q⟩ := q
  rw [k] at e; cases e
  exact h pins s σ H x y v u Q I rx ry ⟨i, j, ex, ey, q⟩
theorem op_cmp (hu : X.A.units + 65 < cLine) (o : OC) : OpR X (compareOp (cmpOf o)) (rCmp X.K o) := by
  cases o with
  | eq => exact op_eqD (by omega)
  | ne => exact op_neD (by omega)
  | is => exact OpR.or op_isN op_is_bl
  | isnot => exact OpR.or op_notN op_isnot_bl
  | isin => exact OpR.or (op_inD hu) op_in_seq
  | notin => exact OpR.or (op_notInD hu) op_notIn_seq
  | lt => exact ord_ok (o := .lt) (by omega) (iord_of op_lt fun _ _ => rfl)
  | le => exact ord_ok (o := .le) (by omega) (iord_of op_le fun _ _ => rfl)
  | gt => exact ord_ok (o := .gt) (by omega) (iord_of op_gt fun _ _ => rfl)
  | ge => exact ord_ok (o := .ge) (by omega) (iord_of op_ge fun _ _ => rfl)
theorem shaped_lay {d : D} (h : SeqAt.shaped d = true) : d.canLay0 = true := SeqAt.canLay_of_shaped h
theorem flat_eqv : ∀ {F : Addr → Prop} {H : Hp} {x y : V} {d e : D}, flatD d = true → flatD e = true → Fz F H x d → Fz F H y e → flatV x = true ∧ flatV y = true ∧ eqV y x = PyData.eqv e d := by
  intro F H x y d e hd he hx hy
  cases d <;> first | cases hd | skip
  all_goals (cases e <;> first | cases he | skip)
  all_goals (first | (obtain rfl := hx.none_) | (obtain rfl := hx.bool_) | (obtain rfl := hx.int_) | (obtain rfl := hx.str_))
  all_goals (first | (obtain rfl := hy.none_) | (obtain rfl := hy.bool_) | (obtain rfl := hy.int_) | (obtain rfl := hy.str_))
  all_goals (refine ⟨rfl, rfl, ?_⟩)
  all_goals (first | rfl | (simp only [eqV, PyData.eqv]; done) | (simp [eqV, PyData.eqv]; done) | skip)
theorem flat_lay : ∀ {d : D}, flatD d = true → isC d = false
  | .none, _ => rfl
  | .bool _, _ => rfl
  | .int _, _ => rfl
  | .str _, _ => rfl
  | .list _, h => by cases h
  | .tuple _, h => by cases h
  | .dict _, h => by cases h
theorem flat_all {F : Addr → Prop} {H : Hp} {x : V} {d : D} (hd : flatD d = true) (hx : Fz F H x d) : ∀ {vs : List V} {ds : List D}, FzAll F H vs ds → ds.all flatD = true → flatV x = true ∧ vs.all flatV = true ∧ inV x vs = inD d ds
  | _, _, .nil, _ => ⟨(flat_eqv hd hd hx hx).1, rfl, rfl⟩
  | _, _, .cons a b, h => by
    simp only [List.all_cons, Bool.and_eq_true] at h
    obtain ⟨h1, h2, h3⟩ := flat_all hd hx b h.2
    obtain ⟨_, g2, g3⟩ := flat_eqv hd h.1 hx a
    refine ⟨h1, by simp [g2, h2], ?_⟩
    simp only [inV, inD, List.any_cons] at h3 ⊢
    rw [g3, h3]
section
variable {cl : Cl} {W : WX} {σ : L2.St} {Q : VK} {x y : V} {H : Hp} {T M : List Ent} {ε : Sg} {K : PySem.W.Frag}
theorem none_iff {F : Addr → Prop} {d : D} (h : Fz F H x d) : decide (x = .non) = isNoneD d := by
  cases d with
  | none => rw [h.none_]; rfl
  | bool b => rw [h.bool_]; rfl
  | int b => rw [h.int_]; rfl
  | str b => rw [h.str_]; rfl
  | list b => obtain ⟨a, _, rfl, _⟩ := h.list; rfl
  | tuple b => obtain ⟨a, _, rfl, _⟩ := h.tuple; rfl
  | dict b => obtain ⟨a, rfl, _⟩ := h.dict; rfl
/-- both at once -/
theorem State.fz2 {v w : EV} {d e : D} (s : State σ ε (vE y w ++ (vE x v ++ T)) H) (lx : vL σ x v) (ly : vL σ y w) (h1 : rs ε v = some d) (h2 : rs ε w = some e) : (∃ F : Addr → Prop, Fz F H x d) ∧ ∃ F : Addr → Prop, Fz F H y e :=
  ⟨s.comm.fz lx h1, s.fz ly h2⟩
theorem Fz.top {F : Addr → Prop} {d : D} (h : Fz F H x d) : Fz (fun _ => True) H x d := h.mono (fun _ _ => trivial) (fun _ _ _ e => e)
theorem cmp_fact {o : OC} {d e : D} {r : Bool} (hx : ∃ F : Addr → Prop, Fz F H x d) (hy : ∃ F : Addr → Prop, Fz F H y e) (h : cmpop o d e = some r) (q : Q (.bl r) H) : rCmp K o x y H Q := by
  obtain ⟨F1, hx⟩ := hx
  obtain ⟨F2, hy⟩ := hy
  replace hx := hx.top
  replace hy := hy.top
  have is_ : ∀ b, isop d e = some b → (y = .non ∧ decide (x = .non) = b) ∨ ∃ a c, x = .bl a ∧ y = .bl c ∧ decide (a = c) = b := by
    intro b hb
    unfold isop at hb
    split at hb
    · cases hb; exact .inl ⟨hy.none_, none_iff hx⟩
    · split at hb
      · cases hb; exact .inr ⟨_, _, hx.bool_, hy.bool_, rfl⟩
      · cases hb
    · cases hb
  have in_ : ∀ b, inop d e = some b → (∀ Q' : VK, Q' (.bl b) H → rInD K x y H Q' ∨ rIn K false x y H Q') ∧ (∀ Q' : VK, Q' (.bl (!b)) H → rNotInD K x y H Q' ∨ rIn K true x y H Q') := by
    intro b hb
    unfold inop at hb
    split at hb
    · rename_i xs
      split at hb
      · rename_i hc
        simp only [Bool.and_eq_true] at hc
        cases hb
        exact ⟨fun Q' q => .inl ⟨d, xs, hx.dp _ _ (shaped_lay hc.1), hy.dp _ _ (shaped_lay hc.2), hc.1, hc.2, q⟩, fun Q' q => .inl ⟨d, xs, hx.dp _ _ (shaped_lay hc.1), hy.dp _ _ (shaped_lay hc.2), hc.1, hc.2, q⟩⟩
      · cases hb
    · rename_i xs
      split at hb
      · rename_i hc
        simp only [Bool.and_eq_true] at hc
        cases hb
        obtain ⟨a, vs, rfl, ra, al⟩ := hy.tuple
        obtain ⟨g1, g2, g3⟩ := flat_all hc.1 hx al hc.2
        exact ⟨fun Q' q => .inr ⟨a, vs, rfl, .inr (.inl (.inl ra)), g1, g2, by rw [if_neg Bool.false_ne_true, g3]; exact q⟩, fun Q' q => .inr ⟨a, vs, rfl, .inr (.inl (.inl ra)), g1, g2, by rw [if_pos rfl, g3]; exact q⟩⟩
      · cases hb
    · cases hb
  have ord : ordop o d e = some r → rOrd K o x y H Q := by
    intro hb
    unfold ordop at hb
    split at hb
    · exact .inl ⟨_, _, r, hx.int_, hy.int_, hb, q⟩
    · rename_i xs ys
      split at hb
      · rename_i ho
        cases e1 : intsD xs with
        | none => rw [e1] at hb; cases hb
        | some ns =>
          rw [e1] at hb
          cases e2 : intsD ys with
          | none => rw [e2] at hb; cases hb
          | some ms =>
            rw [e2] at hb
            simp only [Option.bind_some, Option.map_some, Option.some.injEq] at hb
            subst hb
            obtain ⟨a, vs, ex, ra, al⟩ := hx.tuple
            obtain ⟨b, ws, ey, rb, bl⟩ := hy.tuple
            have z : ∀ {vs : List V} {xs : List D} {ns : List Int}, FzAll (fun _ => True) H vs xs → intsD xs = some ns → vs = ns.map V.int := by
              intro vs xs ns al
              induction xs generalizing vs ns with
              | nil => intro e; cases al; cases e; rfl
              | cons d ds ih =>
                intro e
                cases al with
                | cons p q =>
                  cases d <;> first | (simp only [intsD] at e; cases e; done) | skip
                  rename_i i
                  simp only [intsD] at e
                  cases e3 : intsD ds with
                  | none => rw [e3] at e; cases e
                  | some ms => rw [e3] at e; cases e; rw [p.int_, ih q e3]; rfl
            exact .inr ⟨ho, a, b, ns, ms, ex, ey, by rw [← z al e1]; exact .inl (.inl ra), by rw [← z bl e2]; exact .inl (.inl rb), q⟩
      · cases hb
    · cases hb
  cases o with
  | eq =>
    simp only [cmpop] at h
    split at h
    · rename_i hc
      simp only [Bool.and_eq_true] at hc
      cases h
      exact ⟨d, e, hx.dp _ _ (shaped_lay hc.1), hy.dp _ _ (shaped_lay hc.2), hc.1, hc.2, q⟩
    · cases h
  | ne =>
    simp only [cmpop] at h
    split at h
    · rename_i hc
      simp only [Bool.and_eq_true] at hc
      cases h
      exact ⟨d, e, hx.dp _ _ (shaped_lay hc.1), hy.dp _ _ (shaped_lay hc.2), hc.1, hc.2, q⟩
    · cases h
  | is =>
    rcases is_ r h with ⟨h1, h2⟩ | ⟨a, c, h1, h2, h3⟩
    · exact .inl ⟨h1, by rw [h2]; exact q⟩
    · exact .inr ⟨a, c, h1, h2, by rw [h3]; exact q⟩
  | isnot =>
    simp only [cmpop] at h
    cases e1 : isop d e with
    | none => rw [e1] at h; cases h
    | some b =>
      rw [e1] at h
      cases h
      rcases is_ b e1 with ⟨h1, h2⟩ | ⟨a, c, h1, h2, h3⟩
      · exact .inl ⟨h1, by rw [h2]; exact q⟩
      · exact .inr ⟨a, c, h1, h2, by rw [h3]; exact q⟩
  | isin => exact (in_ r h).1 Q q
  | notin =>
    simp only [cmpop] at h
    cases e1 : inop d e with
    | none => rw [e1] at h; cases h
    | some b =>
      rw [e1] at h
      cases h
      exact (in_ b e1).2 Q q
  | lt => exact ord h
  | le => exact ord h
  | gt => exact ord h
  | ge => exact ord h
theorem cmp_ok {o : OC} (h : Nx2 cl W (fun v w ε2 => ofO (rs ε2 v) fun d => ofO (rs ε2 w) fun e => ofO (cmpop o d e) fun r => .ok (.dat 0 (.bool r)) ε2) σ Q x y H) : rCmp K o x y H Q := by
  obtain ⟨ε, T, v, w, s, lx, ly, r0⟩ := h
  obtain ⟨d, h1, r1⟩ := r0.ofO
  obtain ⟨e, h2, r2⟩ := r1.ofO
  obtain ⟨res, h3, r3⟩ := r2.ofO
  have r : PostE σ T Q (.dat 0 (.bool res)) ε := r3
  obtain ⟨f1, f2⟩ := s.fz2 lx ly h1 h2
  exact cmp_fact f1 f2 h3 (r H _ (s.none2.pbool res) trivial)
end
end
end Kr

set_option Elab.async false
set_option linter.all false
set_option maxRecDepth 100000
set_option maxHeartbeats 3200000
namespace Kr
open PySem PySem.Spec PyProof.Rows L2
section
variable {P : Program} {w : World} {A : Around} {E : Value → Shared → Prop} {s : Shared}
/-- a set as it is new -/
abbrev setO0 (w : World) : Obj := { cls := .type "set", dict := none, data := .set #[] 0 (.fresh 0 0 (!w.params.followText "set-order")) }
set_option maxRecDepth 100000 in
theorem set_of_ints {l : Addr} {items : Array Value} (ns : List Int) {Q : Value → Shared → Prop} (hh : A.handled = none) (hl : s.heap.IsList l items) (hit : IntsAre items.toList ns) (hb : ns.length + 1 < scanBound)
    (k : ∀ (h' : Heap) (tk c : Nat), SetR w h' s.heap.objs.size (fun j => decide (j ∈ ns)) c → c ≤ ns.length → (∀ b o, s.heap.get? b = some o → h'.get? b = some o) → Q (.ref s.heap.objs.size) { s with heap := h', toks := tk }) :
    wpAny (model P w) A (call (.type "set") [.ref l]) Q E s := by
  have hz : items.size = ns.length := by simpa using IntsAre.length hit
  obtain ⟨c, tl, hmro⟩ := F.called_set.mro
  have hmade := F.called_set.made
  have hsub := F.called_set.sub
  refine wpAny_call (codeAny_of_tree (show wpAny _ _ (callAny (.type "set") _) _ _ _ from wpAny_pure ⟨Code.quiet_builtin _ (by decide +kernel), codeAny_builtin F.entry_type_call ?_⟩))
  rw [Around.under_plain (weight_type_call_type "set" [.ref l] []) rfl]
  have h1 := F.called_set.notType
  have h2 := F.called_set.canCreate
  have hct := F.typeCall_set_1 (.ref l)
  repeat (any_goals (first | assumption | wp_step))
  refine codeAny_mono (code_set_led1 (.ref l) (E := E) (Q₁ := fun ob s₁ => ob = .ref s.heap.objs.size ∧ s₁ = { s with heap := s.heap.push (setO0 w) }) ⟨rfl, rfl⟩) fun r s₁ hr => ?_
  cases r with
  | error e => exact hr
  | ok fl =>
    cases fl with
    | ret ob =>
      obtain ⟨rfl, rfl⟩ := hr
      have hS : (s.heap.push (setO0 w)).get? s.heap.objs.size = some (setO0 w) := Heap.get?_push_size _ rfl
      have hT : Shared.TypeIs { s with heap := s.heap.push (setO0 w) } (.ref s.heap.objs.size) "set" := ⟨_, hS, rfl⟩
      have hli := F.called_set.init.lookup
      have hbi := F.called_set.init.bind (.ref s.heap.objs.size)
      repeat (any_goals (first | assumption | wp_step))
      refine codeAny_mono (codeAny_call_builtin (R := wants (fun r s₂ => r = .none ∧ ∃ h' tk c, s₂ = { s with heap := h', toks := tk } ∧ SetR w h' s.heap.objs.size (fun j => decide (j ∈ ns)) c ∧ c ≤ ns.length ∧
          (∀ b o, s.heap.get? b = some o → h'.get? b = some o)) E) F.called_set.init.plain F.entry_set_init (check_set_init_1 hT ?_)) fun r₂ s₂ hr₂ => ?_
      · obtain ⟨⟨oc, od, odt, osl⟩, hol, hcl, nl, hdl⟩ := hl
        simp only at hcl hdl
        subst hcl
        subst hdl
        have hol' : (s.heap.push (setO0 w)).get? l = some { cls := .type "list", dict := od, data := .seq items nl, slots := osl } := Heap.get?_push_of_some _ hol
        have hsls := F.sub_list_set
        have hslf := F.sub_list_frozenset
        have hne : (Value.type "list" == Value.type "dict") = false := by decide
        have hl1 : (s.heap.push (setO0 w)).IsList l items := ⟨_, hol', rfl, nl, rfl⟩
        unfold Builtin.«set.__init__» noKeywords Builtin.Frozenset.updateFrom
        generalize hPI : pyIter = PI
        wp_walk
        subst hPI
        refine wpAny_pyIter_list hl1 (wpAny_bind (wpAny_runValue ?_))
        have lS : l < s.heap.objs.size := Heap.lt_size hol
        have hh3 : A.in1.in1.in1.handled = none := by simp [hh]
        have zI : (s.heap.push (setO0 w)).objs.size = s.heap.objs.size + 1 := Heap.size_push ..
        have nI : l ≠ (s.heap.push (setO0 w)).objs.size := by rw [zI]; exact Nat.ne_of_lt (Nat.lt_succ_of_lt lS)
        have nS : s.heap.objs.size ∉ [(s.heap.push (setO0 w)).objs.size, l] := by
          rw [zI]
          simp only [List.mem_cons, List.not_mem_nil, or_false, not_or]
          exact ⟨Nat.ne_of_lt (Nat.lt_succ_self _), Nat.ne_of_gt lS⟩
        have hval : ∀ (i : Nat) (v : Value), items[i]? = some v → ∃ k t, ns[i]? = some k ∧ v = .int k t := fun i v hv => by
          have hi : i < ns.length := hz ▸ (Array.getElem?_eq_some_iff.mp hv).1
          obtain ⟨t, e⟩ := PyProof.Rows.IntsAre.int_at hit i v (by rw [Array.getElem?_toList]; exact hv)
          exact ⟨ns[i], t, List.getElem?_eq_getElem hi, by rw [e, List.getD_eq_getElem?_getD, List.getElem?_eq_getElem hi] <;> rfl⟩
        refine set_update_ints ((Walks.list hh3 _ l nI items).toS) s.heap.objs.size nS ns hz hb hval (items.size - 0) 0 _ (by omega) (Nat.zero_le _) ⟨⟨_, Heap.get?_push_size _ rfl, rfl, rfl⟩, (hl1.push _)⟩ ?start ?fin
        case start =>
          have hget : ((s.heap.push (setO0 w)).push { cls := .type "list_iterator", data := .fields #[.ref l, .int 0 0] }).get? s.heap.objs.size = some (setO0 w) := Heap.get?_push_of_some _ hS
          exact ⟨0, Nat.le_refl 0, setR_new_at hget⟩
        case fin =>
          rintro ⟨h', g2, d', tk', os'⟩ c' hm hc' hS'
          obtain rfl : g2 = s.gens := hm.gens
          obtain rfl : d' = s.drawn := hm.drawn
          obtain rfl : os' = s.os := hm.os
          refine show wpAny _ _ _ _ _ _ from wpAny_pure (show wpAny _ _ (ret Value.none) _ _ _ from wpAny_pure ⟨rfl, h', tk', c', rfl, hS', by omega, fun b o e => ?_⟩)
          have hb0 : b < s.heap.objs.size := Heap.lt_size e
          refine hm.heap b o ?_ (Heap.get?_push_of_some _ (Heap.get?_push_of_some _ e))
          rw [zI]
          simp only [List.mem_cons, List.not_mem_nil, or_false, not_or]
          exact ⟨Nat.ne_of_lt hb0, Nat.ne_of_lt (Nat.lt_succ_of_lt hb0)⟩
      · cases r₂ with
        | error e => exact hr₂
        | ok fl₂ =>
          cases fl₂ with
          | ret r =>
            obtain ⟨rfl, h', tk, c', rfl, hS', hc', hk'⟩ := hr₂
            repeat (any_goals (first | assumption | wp_step))
            exact k _ _ _ hS' hc' hk'
          | _ => exact hr₂.elim
    | _ => exact hr.elim
end
section
variable {X : Cx}
/-- set(xs) of a list of ints -/
def rSetI (K : PySem.W.Frag) (w : World) : List V → Hp → VK → Prop := fun vs H Q => ∃ (a : Addr) (ns : List Int), vs = [V.ref a] ∧ SqL K H a (ns.map V.int) ∧ ns.length + 1 < scanBound ∧
  ∀ (p : Addr) (c : Nat), c ≤ ns.length → H p = none → Q (.ref p) (L2.upd H p (SetO w p (fun j => decide (j ∈ ns)) c))
theorem cr_setI (hc : X.calm = true) : CallR X (.type "set") (rSetI X.K X.w) := by
  intro pins s σ H vs us Q I r h
  obtain ⟨a, ns, rfl, hs, hb, q⟩ := h
  obtain ⟨its, rv, hl, hz⟩ := I.list hs
  rw [Vals.ref1 r]
  refine set_of_ints ns (I.ok.hd hc) hl.isList (by simpa using rv.ints) hb fun h' tk c hS hc' hk => ?_
  have hp : H s.heap.objs.size = none := I.fresh
  refine ⟨.ref _, _, I.laid (t' := tk) hk (Nat.le_refl _) (setO_new hS), rfl, q _ c hc' hp⟩
end
end Kr

set_option Elab.async false
set_option linter.all false
set_option maxRecDepth 100000
set_option maxHeartbeats 1000000
namespace Kr
open PySem PySem.Spec PyProof.Rows L2
/-! ### sorting, plainly -/
theorem perm_sorted {α : Type} {le : α → α → Prop} : ∀ {l m : List α}, l.Perm m → l.Pairwise le → m.Pairwise le → (∀ a b, a ∈ l → b ∈ l → le a b → le b a → a = b) → l = m
  | [], m, p, _, _, _ => (List.nil_perm.mp p).symm
  | a :: l, m, p, h1, h2, anti => by
    cases m with
    | nil => exact absurd p.length_eq (by simp)
    | cons b m =>
      have e : a = b := by
        have ha : a ∈ b :: m := p.mem_iff.mp List.mem_cons_self
        have hb : b ∈ a :: l := p.mem_iff.mpr List.mem_cons_self
        rcases List.mem_cons.mp ha with e | ha'
        · exact e
        · rcases List.mem_cons.mp hb with e | hb'
          · exact e.symm
          · exact anti a b List.mem_cons_self hb ((List.pairwise_cons.mp h1).1 b hb') ((List.pairwise_cons.mp h2).1 a ha')
      subst e
      rw [perm_sorted (List.Perm.cons_inv p) (List.pairwise_cons.mp h1).2 (List.pairwise_cons.mp h2).2 fun x y hx hy => anti x y (List.mem_cons_of_mem _ hx) (List.mem_cons_of_mem _ hy)]
theorem insI_perm (x : Int) : ∀ l, (insI x l).Perm (x :: l)
  | [] => .refl _
  | y :: r => by
    unfold insI
    split
    · exact .refl _
    · exact ((insI_perm x r).cons y).trans (.swap _ _ _)
theorem insI_sorted (x : Int) : ∀ l : List Int, l.Pairwise (· ≤ ·) → (insI x l).Pairwise (· ≤ ·)
  | [], _ => List.pairwise_singleton _ _
  | y :: r, h => by
    unfold insI
    split
    · rename_i hc
      refine List.pairwise_cons.mpr ⟨fun z hz => ?_, h⟩
      rcases List.mem_cons.mp hz with e | hz
      · rw [e]; exact hc
      · have := (List.pairwise_cons.mp h).1 z hz; omega
    · rename_i hc
      refine List.pairwise_cons.mpr ⟨fun z hz => ?_, insI_sorted x r (List.pairwise_cons.mp h).2⟩
      rcases List.mem_cons.mp ((insI_perm x r).mem_iff.mp hz) with e | hz
      · rw [e]; omega
      · exact (List.pairwise_cons.mp h).1 z hz
theorem isortI_perm : ∀ l, (isortI l).Perm l
  | [] => .refl _
  | x :: l => (insI_perm x _).trans ((isortI_perm l).cons x)
theorem isortI_sorted : ∀ l : List Int, (isortI l).Pairwise (· ≤ ·)
  | [] => List.Pairwise.nil
  | x :: l => insI_sorted x _ (isortI_sorted l)
theorem isortI_of {l m : List Int} (p : m.Perm l) (h : m.Pairwise (· ≤ ·)) : m = isortI l :=
  perm_sorted (p.trans (isortI_perm l).symm) h (isortI_sorted l) fun a b _ _ h1 h2 => by omega
/-! lists of ints, one after another -/
theorem lexI_gt : ∀ a b : List Int, lexI a b = .gt ↔ lexI b a = .lt
  | [], [] => by simp [lexI]
  | [], _ :: _ => by simp [lexI]
  | _ :: _, [] => by simp [lexI]
  | x :: xs, y :: ys => by
    simp only [lexI]
    by_cases e : x = y
    · subst e; simp only [if_true]; exact lexI_gt xs ys
    · rw [if_neg e, if_neg (Ne.symm e)]
      by_cases l : x < y
      · rw [if_pos l, if_neg (by omega)]; simp
      · rw [if_neg l, if_pos (by omega)]; simp
theorem lexI_eq : ∀ a b : List Int, lexI a b = .eq ↔ a = b
  | [], [] => by simp [lexI]
  | [], _ :: _ => by simp [lexI]
  | _ :: _, [] => by simp [lexI]
  | x :: xs, y :: ys => by
    simp only [lexI]
    by_cases e : x = y
    · subst e; simp only [if_true, List.cons.injEq, true_and]; exact lexI_eq xs ys
    · rw [if_neg e]
      split <;> simp [e]
theorem lexI_trans : ∀ a b c : List Int, lexI a b ≠ .gt → lexI b c ≠ .gt → lexI a c ≠ .gt
  | [], b, c, _, _ => by cases c <;> simp [lexI]
  | x :: xs, [], c, h, _ => by simp [lexI] at h
  | x :: xs, y :: ys, [], _, h => by simp [lexI] at h
  | x :: xs, y :: ys, z :: zs, h1, h2 => by
    simp only [lexI] at *
    by_cases e1 : x = y
    · subst e1
      simp only [if_true] at h1
      by_cases e2 : x = z
      · subst e2
        simp only [if_true] at *
        exact lexI_trans xs ys zs h1 h2
      · rw [if_neg e2] at h2 ⊢; exact h2
    · rw [if_neg e1] at h1
      by_cases l : x < y
      · by_cases e2 : y = z
        · subst e2
          rw [if_neg e1, if_pos l]; simp
        · rw [if_neg e2] at h2
          by_cases l2 : y < z
          · rw [if_neg (by omega), if_pos (by omega)]; simp
          · rw [if_neg l2] at h2; exact absurd rfl h2
      · rw [if_neg l] at h1; exact absurd rfl h1
theorem leL_iff {a b : List Int} : leL a b = true ↔ lexI a b ≠ .gt := by
  unfold leL; cases lexI a b <;> simp
theorem leL_anti {a b : List Int} (h1 : leL a b = true) (h2 : leL b a = true) : a = b := by
  rw [leL_iff] at h1 h2
  rw [← lexI_eq]
  cases e : lexI a b with
  | eq => rfl
  | gt => exact absurd e h1
  | lt => exact absurd ((lexI_gt b a).mpr e) h2
theorem leL_total {a b : List Int} (h : ¬ leL a b = true) : leL b a = true := by
  have e : lexI a b = .gt := Decidable.byContradiction fun z => h (leL_iff.mpr z)
  rw [leL_iff, (lexI_gt a b).mp e]
  simp
theorem insT_perm (x : List Int) : ∀ l, (insT x l).Perm (x :: l)
  | [] => .refl _
  | y :: r => by
    unfold insT
    split
    · exact .refl _
    · exact ((insT_perm x r).cons y).trans (.swap _ _ _)
theorem insT_sorted (x : List Int) : ∀ l : List (List Int), l.Pairwise (fun a b => leL a b = true) → (insT x l).Pairwise (fun a b => leL a b = true)
  | [], _ => List.pairwise_singleton _ _
  | y :: r, h => by
    unfold insT
    split
    · rename_i hc
      refine List.pairwise_cons.mpr ⟨fun z hz => ?_, h⟩
      rcases List.mem_cons.mp hz with e | hz
      · rw [e]; exact hc
      · have := (List.pairwise_cons.mp h).1 z hz
        rw [leL_iff] at *
        exact lexI_trans _ _ _ hc this
    · rename_i hc
      refine List.pairwise_cons.mpr ⟨fun z hz => ?_, insT_sorted x r (List.pairwise_cons.mp h).2⟩
      rcases List.mem_cons.mp ((insT_perm x r).mem_iff.mp hz) with e | hz
      · rw [e]; exact leL_total hc
      · exact (List.pairwise_cons.mp h).1 z hz
theorem isortT_perm : ∀ l, (isortT l).Perm l
  | [] => .refl _
  | x :: l => (insT_perm x _).trans ((isortT_perm l).cons x)
theorem isortT_sorted : ∀ l : List (List Int), (isortT l).Pairwise (fun a b => leL a b = true)
  | [] => List.Pairwise.nil
  | x :: l => insT_sorted x _ (isortT_sorted l)
theorem isortT_of {l m : List (List Int)} (p : m.Perm l) (h : m.Pairwise (fun a b => leL a b = true)) : m = isortT l :=
  perm_sorted (p.trans (isortT_perm l).symm) h (isortT_sorted l) fun a b _ _ h1 h2 => leL_anti h1 h2
theorem code_le {B : Int} : ∀ {a b : List Int}, a.length = b.length → TS.Bd B a → TS.Bd B b → TS.code B a ≤ TS.code B b → leL a b = true
  | [], [], _, _, _, _ => rfl
  | x :: xs, y :: ys, hl, h1, h2, h => by
    have hl' : xs.length = ys.length := by simpa using hl
    have h1' : TS.Bd B xs := fun m hm => h1 m (List.mem_cons_of_mem _ hm)
    have h2' : TS.Bd B ys := fun m hm => h2 m (List.mem_cons_of_mem _ hm)
    rw [leL_iff]
    simp only [lexI]
    by_cases e : x = y
    · subst e
      rw [if_pos rfl, ← leL_iff]
      refine code_le hl' h1' h2' ?_
      have := TS.code_same (B := B) (d := x) (r := ys) (q := xs) hl'.symm
      omega
    · rw [if_neg e]
      by_cases l : x < y
      · rw [if_pos l]; simp
      · have := TS.code_lt (B := B) (d := y) (e := x) (r := ys) (q := xs) hl'.symm h2' h1' (by omega)
        omega
/-! sorted sets -/
theorem insU_mem (x : Int) : ∀ (l : List Int) (k : Int), k ∈ insU x l ↔ k = x ∨ k ∈ l
  | [], k => by simp [insU]
  | y :: r, k => by
    unfold insU
    split
    · simp
    · split
      · rename_i h e; subst e; simp
      · rw [List.mem_cons, insU_mem x r k, List.mem_cons]
        constructor
        · rintro (h | h | h)
          · exact .inr (.inl h)
          · exact .inl h
          · exact .inr (.inr h)
        · rintro (h | h | h)
          · exact .inr (.inl h)
          · exact .inl h
          · exact .inr (.inr h)
theorem insU_sorted (x : Int) : ∀ l : List Int, l.Pairwise (· < ·) → (insU x l).Pairwise (· < ·)
  | [], _ => List.pairwise_singleton _ _
  | y :: r, h => by
    unfold insU
    split
    · rename_i hc
      refine List.pairwise_cons.mpr ⟨fun z hz => ?_, h⟩
      rcases List.mem_cons.mp hz with e | hz
      · rw [e]; exact hc
      · have := (List.pairwise_cons.mp h).1 z hz; omega
    · split
      · exact h
      · refine List.pairwise_cons.mpr ⟨fun z hz => ?_, insU_sorted x r (List.pairwise_cons.mp h).2⟩
        rcases (insU_mem x r z).mp hz with e | hz
        · rw [e]; omega
        · exact (List.pairwise_cons.mp h).1 z hz
theorem usort_mem (k : Int) : ∀ l : List Int, k ∈ usort l ↔ k ∈ l
  | [] => by simp [usort]
  | x :: l => by
    show k ∈ insU x (usort l) ↔ _
    rw [insU_mem, usort_mem k l, List.mem_cons]
theorem usort_sorted : ∀ l : List Int, (usort l).Pairwise (· < ·)
  | [] => List.Pairwise.nil
  | x :: l => insU_sorted x _ (usort_sorted l)
theorem lt_unique : ∀ {a b : List Int}, a.Pairwise (· < ·) → b.Pairwise (· < ·) → (∀ k, k ∈ a ↔ k ∈ b) → a = b := by
  intro a b ha hb h
  have na : a.Nodup := ha.imp (fun h => Int.ne_of_lt h)
  have nb : b.Nodup := hb.imp (fun h => Int.ne_of_lt h)
  have p : a.Perm b := (List.perm_ext_iff_of_nodup na nb).mpr h
  exact perm_sorted (le := (· < ·)) p ha hb fun x y _ _ h1 h2 => by omega
end Kr

set_option Elab.async false
set_option linter.all false
set_option maxRecDepth 100000
set_option maxHeartbeats 1000000
namespace Kr
open PySem PySem.Spec PyProof.Rows L2
/-! ### repr -/
section
variable {X : Cx} {pins : List (Addr × Obj)} {σ : L2.St} {H : Hp} {s : Shared} {F : Addr → Prop}
theorem not_sys (I : Inv X pins σ H s) (hs : ∃ o, X.base.get? sysModules = some o) {a : Addr} (h : H a ≠ none) : sysModules ≠ a := fun e => by
  obtain ⟨o, ho⟩ := hs
  exact h (e ▸ (I.bs _ o ho).2)
mutual
theorem Fz.reads (I : Inv X pins σ H s) (hs : ∃ o, X.base.get? sysModules = some o) : ∀ (d : D) (v : V) (u : Value), dictsOk d = true → Fz F H v d → RelV v u → ∃ as, Reads s.heap u d as ∧ sysModules ∉ as
  | .none, _, _, _, h, r => by rw [h.none_] at r; cases r; exact ⟨_, .none, by simp⟩
  | .bool b, _, _, _, h, r => by rw [h.bool_] at r; cases r; exact ⟨_, .bool b, by simp⟩
  | .int i, _, _, _, h, r => by rw [h.int_] at r; obtain ⟨t, rfl⟩ := r; exact ⟨_, .int i t, by simp⟩
  | .str i, _, _, _, h, r => by rw [h.str_] at r; obtain ⟨t, rfl⟩ := r; exact ⟨_, .str i t, by simp⟩
  | .list ds, _, _, hd, h, r => by
    obtain ⟨a, vs, rfl, rd, al⟩ := h.list
    cases r
    obtain ⟨z, its, n, rv, e⟩ := rd.ok I.hok
    obtain ⟨as, hr, ns⟩ := FzAll.reads I hs ds vs its (by simpa [dictsOk] using hd) al rv
    refine ⟨_, .list e rfl rfl (by simpa using hr), ?_⟩
    rw [List.mem_cons, not_or]
    exact ⟨not_sys I hs (by rcases rd with rd | ⟨_, rd⟩ <;> (rw [rd]; exact fun z => nomatch z)), ns⟩
  | .tuple ds, _, _, hd, h, r => by
    obtain ⟨a, vs, rfl, rd, al⟩ := h.tuple
    cases r
    obtain ⟨its, rv, ⟨o, ho, hc, n, hdt⟩, _⟩ := I.tuple (SqT.of rd)
    obtain ⟨as, hr, ns⟩ := FzAll.reads I hs ds vs its (by simpa [dictsOk] using hd) al rv
    exact ⟨_, .tuple ho hc hdt (by simpa using hr), ns⟩
  | .dict kvs, _, _, hd, h, r => by
    have hk : kvs = [] := by simpa [dictsOk] using hd
    subst hk
    cases h with
    | cont f e c al =>
      cases r
      have ns := not_sys I hs (by rw [e]; exact fun z => nomatch z)
      cases c with
      | dK kvs ps hq =>
        have hk : kvs = [] := by simpa using hq
        subst hk
        obtain ⟨_, _, vs, kv, o, es, ep, ho, hx, hdt, _, pr, _⟩ : ObjOk X.prog X.w H s.heap _ (.dK []) := I.hok _ _ e
        have hv : vs = [] := by cases kv; rfl
        subst hv
        have he : es.toList = [] := by
          generalize es.toList = l at pr
          cases pr
          rfl
        refine ⟨_, .dict (as := []) (bs := []) ho hx.1 hdt (by rw [he]; exact .nil) (by rw [he]; exact .nil), ?_⟩
        simpa using ns
      | dT kvs ps hq =>
        have hk : kvs = [] := by simpa using hq
        subst hk
        obtain ⟨_, _, xs, pr, o, es, ep, ho, hx, hdt, he, _⟩ : ObjOk X.prog X.w H s.heap _ (.dT []) := I.hok _ _ e
        have hv : xs = [] := by cases pr; rfl
        subst hv
        refine ⟨_, .dict (as := []) (bs := []) ho hx.1 hdt (by rw [he]; exact .nil) (by rw [he]; exact .nil), ?_⟩
        simpa using ns
theorem FzAll.reads (I : Inv X pins σ H s) (hs : ∃ o, X.base.get? sysModules = some o) : ∀ (ds : List D) (vs : List V) (us : List Value), dictsOkAll ds = true → FzAll F H vs ds → Vals vs us → ∃ as, ReadsAll s.heap us ds as ∧ sysModules ∉ as
  | [], _, _, _, h, r => by cases h; cases r; exact ⟨_, .nil, by simp⟩
  | d :: ds, _, _, hd, h, r => by
    cases h with
    | cons h1 h2 =>
      cases r with
      | cons r1 r2 =>
        simp only [dictsOkAll, Bool.and_eq_true] at hd
        obtain ⟨as, q1, n1⟩ := Fz.reads I hs d _ _ hd.1 h1 r1
        obtain ⟨bs, q2, n2⟩ := FzAll.reads I hs ds _ _ hd.2 h2 r2
        refine ⟨_, .cons q1 q2, ?_⟩
        rw [List.mem_append, not_or]
        exact ⟨n1, n2⟩
end
end
def rRepr : List V → Hp → VK → Prop := fun vs H Q => ∃ x d, vs = [x] ∧ (∃ F : Addr → Prop, Fz F H x d) ∧ reprOk d = true ∧ Q (.str d.shown) H
section
variable {X : Cx}
theorem cr_repr (hg : X.A.guards = some []) (hu : X.A.units + 64 < cLine) (hs : ∃ o, X.base.get? sysModules = some o) : CallR X (.builtin "repr") rRepr := by
  intro pins s σ H xs us Q I r h
  obtain ⟨x, d, rfl, ⟨F, hz⟩, ok, q⟩ := h
  obtain ⟨u, rfl, rx⟩ := vals1 r
  simp only [reprOk, Bool.and_eq_true, decide_eq_true_eq] at ok
  obtain ⟨⟨⟨o1, o2⟩, o3⟩, o4⟩ := ok
  obtain ⟨as, rd, ns⟩ := hz.reads I hs d x u o4 rx
  have fin : ∀ h' u tk, (∀ b o, s.heap.get? b = some o → h'.get? b = some o) → EP X pins σ Q (.str d.shown u) { s with heap := h', toks := tk } := fun h' u tk k => ⟨.str _, H, I.kept k, ⟨_, rfl⟩, q⟩
  cases u with
  | ref a => exact repr_of_reads' rd o1 (fun _ => ns) hg (by omega) (fun _ _ e => e) fin o2
  | none => cases rd; exact P.repr_of_none ⟨.str _, H, I.tok _, ⟨_, rfl⟩, by simpa [PyData.shown] using q⟩
  | bool b => cases rd; exact P.repr_of_bool ⟨.str _, H, I.tok _, ⟨_, rfl⟩, by simpa [PyData.shown] using q⟩
  | int i t => cases rd; exact P.repr_of_int (by simpa [PyData.showable] using o1) ⟨.str _, H, I.tok _, ⟨_, rfl⟩, by simpa [PyData.shown] using q⟩
  | str z t => cases rd; exact P.repr_of_str ⟨.str _, H, I.tok _, ⟨_, rfl⟩, by simpa [PyData.shown] using q⟩ (by simpa [PyData.shown] using o2)
  | _ => cases rd
/-! ### the built-ins of one argument -/
def n1 : B1 → Option (Str × Value)
  | .len => some ("len", .builtin "len")
  | .sum => some ("sum", .builtin "sum")
  | .int => some ("int", .type "int")
  | .maxl => some ("max", .builtin "max")
  | .minl => some ("min", .builtin "min")
  | .repr => some ("repr", .builtin "repr")
  | .list => some ("list", .type "list")
  | .tuple => some ("tuple", .type "tuple")
  | .sorted => some ("sorted", .builtin "sorted")
  | _ => none
def r1 (K : PySem.W.Frag) : B1 → List V → Hp → VK → Prop
  | .len => fun xs H Q => ∃ x n, xs = [x] ∧ LenV K x H n ∧ Q (.int n) H
  | .sum => rSum K
  | .int => fun xs H Q => (∃ i, xs = [.int i] ∧ Q (.int i) H) ∨ ∃ k, xs = [.bl k] ∧ Q (.int (if k then 1 else 0)) H
  | .maxl => rMax K
  | .minl => rMin K
  | .repr => rRepr
  | .list => fun xs H Q => ∃ p ys, xs = [.ref p] ∧ (SqL K H p ys ∨ SqT K H p ys) ∧ ∀ l, H l = none → Q (.ref l) (L2.upd H l (.lst ys))
  | .tuple => fun xs H Q => ∃ p ys, xs = [.ref p] ∧ ((SqL K H p ys ∧ ∀ l, H l = none → Q (.ref l) (L2.upd H l (.tup ys))) ∨ (SqT K H p ys ∧ Q (.ref p) H))
  | .sorted => fun xs H Q => rSortedI K xs H Q ∨ ∃ d B, 1 ≤ d ∧ rSortU K d B xs H Q
  | _ => fun _ _ _ => False
theorem cr_1 (hc : X.calm = true) (hg : X.A.guards = some []) (hu : X.A.units + 64 < cLine) (hs : ∃ o, X.base.get? sysModules = some o) {f : B1} {n : Str} {v : Value} (e : n1 f = some (n, v)) : CallR X v (r1 X.K f) := by
  cases f <;> cases e
  · exact call_len
  · exact cr_sum hc
  · exact call_int1
  · exact cr_max hc
  · exact cr_min hc
  · exact cr_repr hg hu hs
  · exact call_list_of
  · exact call_tuple_of
  · intro pins s σ H xs us Q I r h
    rcases h with h | ⟨d, B, hd, h⟩
    · exact cr_sortedI pins s σ H xs us Q I r h
    · exact cr_sortT hd pins s σ H xs us Q I r h
theorem boot_1 {f : B1} {n : Str} {v : Value} (e : n1 f = some (n, v)) : bootBuiltins n = some v ∧ n ≠ "__name__" ∧ (n == ("__debug__" : Str)) = false := by
  cases f <;> cases e <;> exact ⟨by decide +kernel, by decide +kernel, by decide +kernel⟩
end
/-! ### facts -/
theorem intsD_map : ∀ {xs : List D} {ns : List Int}, intsD xs = some ns → xs = ns.map PyData.int
  | [], ns, e => by cases e; rfl
  | d :: ds, ns, e => by
    cases d <;> first | (simp only [intsD] at e; cases e; done) | skip
    simp only [intsD] at e
    cases e3 : intsD ds with
    | none => rw [e3] at e; cases e
    | some ms => rw [e3] at e; cases e; rw [intsD_map e3]; rfl
theorem fz_ints {F : Addr → Prop} {H : Hp} : ∀ {vs : List V} {ns : List Int}, FzAll F H vs (ns.map PyData.int) → vs = ns.map V.int
  | [], [], _ => rfl
  | _ :: _, n :: ns, .cons a b => by rw [a.int_, fz_ints b]; rfl
theorem foldl_max_of {m : Int} : ∀ (l : List Int) (n : Int), (m = n ∨ m ∈ l) → (∀ y ∈ n :: l, y ≤ m) → l.foldl max n = m
  | [], n, h1, h2 => by rcases h1 with rfl | h1; rfl; cases h1
  | a :: l, n, h1, h2 => by
    rw [List.foldl_cons]
    refine foldl_max_of l (max n a) ?_ ?_
    · rcases h1 with rfl | h1
      · left
        have := h2 a (by simp)
        omega
      · rcases List.mem_cons.mp h1 with rfl | h1
        · left
          have := h2 n (by simp)
          omega
        · exact .inr h1
    · intro y hy
      rcases List.mem_cons.mp hy with rfl | hy
      · have e1 := h2 n (by simp)
        have e2 := h2 a (by simp)
        omega
      · exact h2 y (by simp [hy])
theorem foldl_min_of {m : Int} : ∀ (l : List Int) (n : Int), (m = n ∨ m ∈ l) → (∀ y ∈ n :: l, m ≤ y) → l.foldl min n = m
  | [], n, h1, h2 => by rcases h1 with rfl | h1; rfl; cases h1
  | a :: l, n, h1, h2 => by
    rw [List.foldl_cons]
    refine foldl_min_of l (min n a) ?_ ?_
    · rcases h1 with rfl | h1
      · left
        have := h2 a (by simp)
        omega
      · rcases List.mem_cons.mp h1 with rfl | h1
        · left
          have := h2 n (by simp)
          omega
        · exact .inr h1
    · intro y hy
      rcases List.mem_cons.mp hy with rfl | hy
      · have e1 := h2 n (by simp)
        have e2 := h2 a (by simp)
        omega
      · exact h2 y (by simp [hy])
section
variable {K : PySem.W.Frag} {σ : L2.St} {ε : Sg} {T M : List Ent} {H H' : Hp} {x y : V} {d : D} {v : EV}
theorem State.ints {n : Nat} : ∀ (ns : List Int) {T : List Ent}, State σ ε T H → State σ ε (entsOf n (ns.map V.int) (ns.map PyData.int) ++ T) H
  | [], _, s => s
  | i :: ns, _, s => (State.ints ns s).pure (n := n) (fun _ => .int i)
/-- a tuple read off the heap -/
def vD : V → D
  | .int i => .int i
  | _ => .none
def tupAt (H : Hp) : V → D
  | .ref a => (match H a with
    | some (.tup vs) => .tuple (vs.map vD)
    | _ => .none)
  | _ => .none
theorem vD_ints (ns : List Int) : (ns.map V.int).map vD = ns.map PyData.int := by
  rw [List.map_map]; rfl
theorem tups_map : ∀ {xs : List D} {ts : List (List Int)}, tupsD xs = some ts → xs = ts.map tupD
  | [], ts, e => by cases e; rfl
  | d :: ds, ts, e => by
    cases d <;> first | (simp only [tupsD] at e; cases e; done) | skip
    rename_i l
    simp only [tupsD] at e
    cases e1 : intsD l with
    | none => rw [e1] at e; cases e
    | some ns =>
      rw [e1] at e
      cases e3 : tupsD ds with
      | none => rw [e3] at e; cases e
      | some ms => rw [e3] at e; cases e; rw [tups_map e3, intsD_map e1]; rfl
theorem fz_tups {F : Addr → Prop} : ∀ {vs : List V} {ts : List (List Int)}, FzAll F H vs (ts.map tupD) → vs.map (tupAt H) = ts.map tupD ∧ ∀ x ∈ vs, ∃ ns ∈ ts, tupAt H x = tupD ns ∧ ∃ t, x = .ref t ∧ H t = some (.tup (ns.map V.int))
  | [], [], _ => ⟨rfl, by simp⟩
  | x :: vs, n :: ns, .cons a b => by
    obtain ⟨h1, h2⟩ := fz_tups b
    obtain ⟨t, ws, rfl, rd, al⟩ := a.tuple
    have e := fz_ints al
    subst e
    have ea : tupAt H (.ref t) = tupD n := by
      simp only [tupAt, rd, vD_ints]; rfl
    refine ⟨by rw [List.map_cons, List.map_cons, h1, ea], fun x hx => ?_⟩
    rcases List.mem_cons.mp hx with rfl | hx
    · exact ⟨n, List.mem_cons_self, ea, t, rfl, rd⟩
    · obtain ⟨m, hm, q⟩ := h2 x hx
      exact ⟨m, List.mem_cons_of_mem _ hm, q⟩
theorem entsOf_map (n : Nat) (f : V → D) : ∀ vs : List V, entsOf n vs (vs.map f) = vs.map fun x => (x, n, f x)
  | [] => rfl
  | v :: vs => by
    have := entsOf_map n f vs
    simp only [entsOf, List.map_cons, List.zip_cons_cons] at this ⊢
    rw [this]
def tdI : D → List Int
  | .tuple xs => (intsD xs).getD []
  | _ => []
theorem intsD_of (ns : List Int) : intsD (ns.map PyData.int) = some ns := by
  induction ns with
  | nil => rfl
  | cons n ns ih => simp only [List.map_cons, intsD, ih]; rfl
theorem tdI_tupD (ns : List Int) : tdI (tupD ns) = ns := by simp [tdI, tupD, intsD_of]
theorem b1_fact {f : B1} {n : Str} {cv : Value} {r : Nat × D} {Q : VK} (hn : n1 f = some (n, cv)) (s : State σ ε (vE x v ++ T) H) (lx : vL σ x v) (h1 : bor ε v = some d) (h2 : b1v f d = some r)
    (q : PostE σ T Q (.dat r.1 r.2) ε) : r1 K f [x] H Q := by
  obtain ⟨F0, hz0⟩ := s.fz lx (bor_rs h1)
  have hz := hz0.top
  have sT : State σ ε T H := s.dropN
  cases f with
  | len =>
    cases d with
    | list xs =>
      cases h2
      obtain ⟨a, vs, rfl, rd, al⟩ := hz.list
      exact ⟨_, xs.length, rfl, .inl ⟨vs, .inl rd, al.length.symm⟩, q H _ (sT.pint _) trivial⟩
    | tuple xs =>
      cases h2
      obtain ⟨a, vs, rfl, rd, al⟩ := hz.tuple
      exact ⟨_, xs.length, rfl, .inr ⟨vs, .inl (.inl rd), al.length.symm⟩, q H _ (sT.pint _) trivial⟩
    | str z =>
      simp only [b1v] at h2
      split at h2
      · rename_i hc
        cases h2
        rw [hz.str_]
        exact ⟨_, z.length, rfl, ⟨hc, rfl⟩, q H _ (sT.pint _) trivial⟩
      · cases h2
    | _ => cases h2
  | sum =>
    cases d with
    | list xs =>
      simp only [b1v] at h2
      cases e : intsD xs with
      | none => rw [e] at h2; cases h2
      | some ns =>
        rw [e] at h2; cases h2
        obtain ⟨a, vs, rfl, rd, al⟩ := hz.list
        rw [intsD_map e] at al
        rw [fz_ints al] at rd
        exact ⟨a, ns, rfl, .inl rd, q H _ (sT.pint _) trivial⟩
    | _ => cases h2
  | int =>
    cases d with
    | int i => cases h2; exact .inl ⟨i, by rw [hz.int_], q H _ (sT.pint _) trivial⟩
    | bool b => cases h2; exact .inr ⟨b, by rw [hz.bool_], q H _ (sT.pint _) trivial⟩
    | _ => cases h2
  | maxl =>
    cases d with
    | list xs =>
      simp only [b1v] at h2
      cases e : intsD xs with
      | none => rw [e] at h2; cases h2
      | some ns =>
        rw [e] at h2
        cases ns with
        | nil => cases h2
        | cons m ns =>
          simp only [Option.bind_some, Option.some.injEq] at h2
          subst h2
          obtain ⟨a, vs, rfl, rd, al⟩ := hz.list
          rw [intsD_map e] at al
          rw [fz_ints al] at rd
          refine ⟨a, m :: ns, rfl, .inl rd, by simp, fun k hk hle => ?_⟩
          have := foldl_max_of (m := k) ns m (List.mem_cons.mp hk) hle
          rw [← this]
          exact q H _ (sT.pint _) trivial
    | _ => cases h2
  | minl =>
    cases d with
    | list xs =>
      simp only [b1v] at h2
      cases e : intsD xs with
      | none => rw [e] at h2; cases h2
      | some ns =>
        rw [e] at h2
        cases ns with
        | nil => cases h2
        | cons m ns =>
          simp only [Option.bind_some, Option.some.injEq] at h2
          subst h2
          obtain ⟨a, vs, rfl, rd, al⟩ := hz.list
          rw [intsD_map e] at al
          rw [fz_ints al] at rd
          refine ⟨a, m :: ns, rfl, .inl rd, by simp, fun k hk hle => ?_⟩
          have := foldl_min_of (m := k) ns m (List.mem_cons.mp hk) hle
          rw [← this]
          exact q H _ (sT.pint _) trivial
    | _ => cases h2
  | repr =>
    simp only [b1v] at h2
    split at h2
    · rename_i hc
      cases h2
      exact ⟨x, d, rfl, ⟨_, hz⟩, hc, q H _ (sT.pstr _) trivial⟩
    · cases h2
  | list =>
    cases d with
    | list xs =>
      cases h2
      obtain ⟨a, vs, rfl, rd, hl, s2⟩ := s.share lx h1
      exact ⟨a, vs, rfl, .inl (.inl rd), fun l hl' => q _ _ (s2.newL hl hl') trivial⟩
    | tuple xs =>
      cases h2
      obtain ⟨a, vs, rfl, rd, hl, s2⟩ := s.shareT lx (bor_rs h1)
      exact ⟨a, vs, rfl, .inr (.inl (.inl rd)), fun l hl' => q _ _ (s2.newL hl hl') trivial⟩
    | _ => cases h2
  | tuple =>
    cases d with
    | list xs =>
      cases h2
      obtain ⟨a, vs, rfl, rd, hl, s2⟩ := s.share lx h1
      exact ⟨a, vs, rfl, .inl ⟨.inl rd, fun l hl' => q _ _ (s2.newT hl hl') trivial⟩⟩
    | tuple xs =>
      cases h2
      obtain ⟨a, vs, ex, rd, al⟩ := hz.tuple
      refine ⟨a, vs, by rw [ex], .inr ⟨.inl (.inl rd), ?_⟩⟩
      rw [← ex]
      exact q _ _ (s.copyF rfl lx (bor_rs h1)) trivial
    | _ => cases h2
  | sorted =>
    cases d with
    | list xs =>
      simp only [b1v] at h2
      cases e : sortD xs with
      | none => rw [e] at h2; cases h2
      | some ys =>
        rw [e] at h2; cases h2
        unfold sortD at e
        split at e
        · rename_i ns e1
          cases e
          obtain ⟨a, vs, rfl, rd, al⟩ := hz.list
          rw [intsD_map e1] at al
          rw [fz_ints al] at rd
          refine .inl ⟨a, ns, rfl, .inl rd, fun ns' p hp hs hn => ?_⟩
          rw [isortI_of hp hs]
          exact q _ _ ((State.ints (n := 0) (isortI ns) sT).newL (by simp) hn) trivial
        · rename_i e1
          cases e2 : tupsD xs with
          | none => rw [e2] at e; cases e
          | some ts =>
            rw [e2] at e
            simp only [Option.bind_some] at e
            split at e
            · rename_i hc
              cases e
              simp only [Bool.and_eq_true, decide_eq_true_eq, List.all_eq_true, beq_iff_eq] at hc
              obtain ⟨⟨h64, hall⟩, hd⟩ := hc
              obtain ⟨a, vs, rfl, rd, hl, s2⟩ := s.share lx h1
              obtain ⟨_, s3⟩ := s2.sep
              obtain ⟨a', vs', ea, rd', al⟩ := hz.list
              cases ea
              have ev : vs' = vs := by
                rcases rd with r | ⟨_, r⟩ <;> rcases rd' with r' | ⟨_, r'⟩ <;> (rw [r] at r'; cases r'; try rfl)
              subst ev
              have ex := tups_map e2
              subst ex
              obtain ⟨m1, m2⟩ := fz_tups al
              -- a bound of all the ints
              obtain ⟨B, hB⟩ : ∃ B : Int, ∀ t ∈ ts, ∀ i ∈ t, i < B := by
                have hb : ∀ l : List Int, ∃ B : Int, ∀ i ∈ l, i < B := by
                  intro l
                  induction l with
                  | nil => exact ⟨0, by simp⟩
                  | cons a l ih =>
                    obtain ⟨B, h⟩ := ih
                    refine ⟨max B (a + 1), fun i hi => ?_⟩
                    rcases List.mem_cons.mp hi with rfl | hi
                    · omega
                    · have := h i hi; omega
                obtain ⟨B, h⟩ := hb ts.flatten
                exact ⟨B, fun t ht i hi => h i (List.mem_flatten.mpr ⟨t, ht, hi⟩)⟩
              have bd : ∀ t ∈ ts, TS.Bd B t := fun t ht m hm => ⟨(hall t ht).2 m hm, hB t ht m hm⟩
              refine .inr ⟨(ts.headD []).length, B, hd, a, vs', rfl, .inl rd, by rw [hl]; simpa using h64, fun x hx => ?_, fun ys p hp hs hn => ?_⟩
              · obtain ⟨ns, hns, _, t, et, ht⟩ := m2 x hx
                exact ⟨ns, ⟨t, et, .inl (.inl ht)⟩, (hall ns hns).1, bd ns hns⟩
              · have e3 : entsOf 0 vs' (ts.map tupD) = vs'.map fun x => (x, 0, tupAt H x) := by rw [← m1, entsOf_map]
                have s4 : State σ ε ((ys.map fun x => (x, 0, tupAt H x)) ++ T) H := by
                  refine State.permT s2 ?_
                  rw [e3]
                  exact List.Perm.append_right _ (hp.symm.map _)
                have e5 : ys.map (tupAt H) = (isortT ts).map tupD := by
                  have pm : (ys.map (tupAt H)).Perm (ts.map tupD) := by rw [← m1]; exact hp.map _
                  have pt : ((ys.map (tupAt H)).map tdI).Perm ts := by
                    have := pm.map tdI
                    rw [List.map_map (f := tupD)] at this
                    have e6 : ts.map (tdI ∘ tupD) = ts := by
                      conv => rhs; rw [← List.map_id ts]
                      exact List.map_congr_left fun t _ => tdI_tupD t
                    rwa [e6] at this
                  have all : ∀ y ∈ ys, ∃ ns ∈ ts, tupAt H y = tupD ns ∧ ∃ t, y = .ref t ∧ H t = some (.tup (ns.map V.int)) := fun y hy => m2 y (hp.mem_iff.mp hy)
                  have srt : ((ys.map (tupAt H)).map tdI).Pairwise (fun a b => leL a b = true) := by
                    rw [List.pairwise_map, List.pairwise_map]
                    refine List.Pairwise.imp_of_mem (fun {y z} hy hz h => ?_) hs
                    obtain ⟨ns, hns, e7, t, et, ht⟩ := all y hy
                    obtain ⟨ms, hms, e8, t', et', ht'⟩ := all z hz
                    rw [e7, e8, tdI_tupD, tdI_tupD]
                    exact code_le (by rw [(hall ns hns).1, (hall ms hms).1]) (bd ns hns) (bd ms hms) (h ns ms ⟨t, et, .inl (.inl ht)⟩ ⟨t', et', .inl (.inl ht')⟩)
                  have e9 := isortT_of pt srt
                  rw [← e9, List.map_map, List.map_map]
                  refine List.map_congr_left fun y hy => ?_
                  obtain ⟨ns, hns, e7, _⟩ := all y hy
                  show tupAt H y = tupD (tdI (tupAt H y))
                  rw [e7, tdI_tupD]
                rw [← entsOf_map, e5] at s4
                refine q _ _ (s4.newL ?_ hn) trivial
                have := congrArg List.length e5
                simpa using this
            · cases e
    | _ => cases h2
  | _ => cases hn
end
end Kr

set_option Elab.async false
set_option linter.all false
set_option maxRecDepth 100000
set_option maxHeartbeats 1000000
namespace Kr
open PySem PySem.Spec PyProof.Rows L2
/-! ### the hook: no list of the module is looked at; the modules' dict is there -/
def isLst (o : Obj) : Bool := match o.cls with
  | .type c => decide (c = "list")
  | _ => false
def frK (n : Nat) (g : Addr → Option Obj) : PySem.W.Frag := He.frG g ((sysModules :: He.asD g n).filter fun a => match g a with
  | some o => !isLst o
  | none => false)
def goodK (K : PySem.W.Frag) : Bool := (K.lookup sysModules).isSome && K.all fun p => !isLst p.2
def obsK (n : Nat) (fa : List He.Fa) (fn : List He.DefD) (g : Addr → Option Obj) : Bool × He.AlD := (goodK (frK n g), He.obsD fa fn (frK n g))
def hookK (n : Nat) (fa : List He.Fa) (fn : List He.DefD) : PySem.W.Hook where
  α := Bool × He.AlD
  obs := fun s => obsK n fa fn s.heap.get?
  val := fun _ => (true, He.valD fn)
  says := fun _ h => ∃ K : PySem.W.Frag, K.In h ∧ goodK K = true ∧ He.SaysD fa fn K
  of := fun _ _ e => ⟨_, He.frG_in, congrArg (fun z : Bool × He.AlD => z.1) e, congrArg (fun z : Bool × He.AlD => z.2) e⟩
  keeps := fun _ _ _ ⟨K, hK, c⟩ k => ⟨K, PySem.W.Frag.In.keeps hK k, c⟩
theorem obsK_eq {n : Nat} {fa : List He.Fa} {fn : List He.DefD} {g : Addr → Option Obj} {s : Shared} (h : ∀ a, g a = s.heap.get? a) : obsK n fa fn g = (hookK n fa fn).obs s := by
  have e : g = s.heap.get? := funext h
  rw [e] <;> rfl
theorem goodK_sys {K : PySem.W.Frag} {h : Heap} (c : goodK K = true) (X : K.In h) : ∃ o, h.get? sysModules = some o := by
  obtain ⟨o, e⟩ := Option.isSome_iff_exists.mp (He.ba c).1
  exact ⟨o, X _ _ e⟩
theorem mem_lk {a : Addr} {o : Obj} : ∀ {l : List (Addr × Obj)}, l.lookup a = some o → (a, o) ∈ l
  | (b, u) :: r, h => by
    rw [List.lookup_cons] at h
    cases q : a == b with
    | true => rw [q] at h; cases h; rw [beq_iff_eq.mp q]; exact List.mem_cons_self
    | false => rw [q] at h; exact List.mem_cons_of_mem _ (mem_lk h)
theorem goodK_lst {K : PySem.W.Frag} (c : goodK K = true) {a : Addr} {o : Obj} (e : K.lookup a = some o) : o.cls ≠ .type "list" := fun q => by
  have c2 := List.all_eq_true.mp (He.ba c).2 (a, o) (mem_lk e)
  have c3 : (!isLst o) = true := c2
  unfold isLst at c3
  rw [q] at c3
  cases c3
/-! ### what a def promises, under no guard -/
structure FnG (P : Program) (w : World) (K : PySem.W.Frag) (mg : Str → Option Value) (base : Heap) (CX : CXT) (k : Nat) (f : Addr) (fd : FuncData) (ps : List Str) (sp : Sp) : Prop where
  len : ∀ vs H Q E, sp vs H Q E → vs.length = ps.length
  run : ∀ (A : Around) (outer : List Env) (s : Shared) (H : Hp) (args : Args) (us : List Value) (vs : List V) (Q : VK) (E : XK), Room k A → A.guards = some [] → Env0 P w K mg base A outer s H → BindsTo s fd args (ps.zip us) → Vals vs us → sp vs H Q E →
    codeAny (model P w) A (.call (.ref f) args) (CR CX outer P w H s Q E) s
section
variable {P : Program} {w : World} {K : PySem.W.Frag} {mg : Str → Option Value} {base : Heap} {CX : CXT}
theorem FnG.mono {j k : Nat} {f : Addr} {fd : FuncData} {ps : List Str} {sp : Sp} (F : FnG P w K mg base CX j f fd ps sp) (h : j ≤ k) : FnG P w K mg base CX k f fd ps sp :=
  ⟨F.len, fun A outer s H args us vs Q E hr => F.run A outer s H args us vs Q E (hr.mono h)⟩
/-- by the body -/
theorem FnG.of {k : Nat} {x qual : Str} {params : Arguments} {body : List Stmt} {scope : Scope} {dvs : List V} {kws : List (Str × V)} {f : Addr} {fd : FuncData} {N ps : List Str} {sp : Sp} (F : FunD K x qual params body scope dvs kws f fd) (S : FnScope N ps scope)
    (len : ∀ vs H Q E, sp vs H Q E → vs.length = ps.length)
    (hbody : ∀ (cdv : Value) (A : Around) (outer : List Env) (s : Shared) (H : Hp) (vs : List V) (Q : VK) (E : XK), Room k (A.deeper (envOfC qual scope s.heap.objs.size f cdv)) → A.guards = some [] → sp vs H Q E →
      ∃ t, PSs (cxOf CX P w K mg base N qual scope f cdv A outer s H E) body t ∧ t { nx := fun _ H' => Q .non H', rt := Q } (start N vs) H) : FnG P w K mg base CX (k + 1) f fd ps sp := by
  obtain ⟨oc, od, dV, kV, doc, pm, an, cdv, ct, osl, rfl, lk, hcd, _, _⟩ := F.ex
  refine ⟨len, fun A outer s H args us vs Q E hr hg e0 hb r hsp => ?_⟩
  have n := len _ _ _ _ hsp
  have KX : K.In s.heap := e0.mod.kin.keeps fun b o e => (e0.bs b o e).1
  have hk : ∀ y ∈ ps.zip us, scope.names.lookup y.1 = some .local ∨ (scope.names.lookup y.1 = some .cell ∧ ((cellsFrom (s.heap.objs.size + 1) scope.names []).lookup y.1).isSome = true) := fun y hy =>
    (S.par y.1 (List.of_mem_zip (a := y.1) (b := y.2) hy).1).imp id fun q => ⟨q, PySem.W.cellsFrom_some _ _ _ (.inl q)⟩
  refine codeAny_call_function hr.depth (KX _ _ lk) rfl S.co S.gen rfl (PySem.W.codeRec_of KX hcd) (hb _ _ _ _ (wpAny_newFunctionEnv_cells S.kind hk fun env he s1 x => ?_))
  subst he
  refine ⟨(e0.mod.nolimit.keeps fun b o e => (e0.bs b o e).1).keeps x.toInCall.keep, codeAny_func ?_⟩
  obtain ⟨t, ht, hq⟩ := hbody cdv A outer s H vs Q E (hr.deeper _) hg hsp
  refine wpAny_mono (ht.run [] s1 (start N vs) H _ (inv_start S hr.hd e0 n r x) hq) (fun fl s' hs => ?_) fun e s' hs => hs
  cases fl with
  | next => exact let ⟨_, H', J, q⟩ := hs; ⟨V.non, H', J.os, J.bare, J.base, J.hok, (rfl : RelV V.non Value.none), q⟩
  | ret u => exact let ⟨v, _, H', J, rv, q⟩ := hs; ⟨v, H', J.os, J.bare, J.base, J.hok, rv, q⟩
  | brk => exact hs.elim fun _ ⟨_, _, q⟩ => q.elim
  | cont => exact hs.elim fun _ ⟨_, _, q⟩ => q.elim
end
section
variable {X : Cx} {CX : CXT} {k : Nat} {f : Addr} {fd : FuncData} {ps : List Str} {sp : Sp} {E : L2.St → XK} {x : Str} {p pos : Pos} {e : Expr} {es : List Expr} {t : TA}
theorem FnG.call {pins : List (Addr × Obj)} {σ : L2.St} {H : Hp} {s : Shared} {Q : VK} {us : List Value} {vs : List V} (F : FnG X.prog X.w X.K X.mg X.base CX k f fd ps sp) (hr : Room k X.A) (hg : X.A.guards = some []) (hb : Binds X.K fd ps [])
    (hx : PassesAt CX X σ (E σ)) (I : Inv X pins σ H s) (r : Vals vs us) (h : sp vs H Q (E σ)) : wpAny (model X.prog X.w) X.A (call (.ref f) us) (EP X pins σ Q) X.xe s := by
  have n : us.length = ps.length := by rw [← r.length]; exact F.len _ _ _ _ h
  have b := hb s us I.kIn (by rw [List.append_nil]; exact n)
  rw [List.append_nil] at b
  refine wpAny_call (codeAny_mono (F.run X.A X.stack s H ⟨us, []⟩ us vs Q (E σ) hr hg I.env0 b r h) fun r s' hq => ?_)
  match r, hq with
  | .error e, hq => exact hx pins H s e s' I hq
  | .ok (.ret u), hq => exact I.after hq
/-- f(..), the arguments by place -/
theorem pe_callG (F : FnG X.prog X.w X.K X.mg X.base CX k f fd ps sp) (hr : Room k X.A) (hg : X.A.guards = some []) (gl : Gl X x) (hm : X.mg x = some (.ref f)) (hk : PySem.W.keepIn X.K (.ref f) = true) (hb : Binds X.K fd ps []) (hx : ∀ σ, PassesAt CX X σ (E σ))
    (ha : PA X (e :: es) t) (hdb : (x == ("__debug__" : Str)) = false) (he : starEach (e :: es) X.env = (false, eval e X.env) :: starEach es X.env) (hpl : (backTo pos (starEach es X.env)).any (·.1) = false) :
    PE X (.Call (.Name x p) (e :: es) [] pos) (tCallS sp E t) :=
  ⟨fun pins s σ H Q I h => wpAny_Call_Name_kw (ld_glob I gl hm (PySem.W.callWith_K (h₀ := X.base) I.ok.mod.kin hk (thn (ha.run pos pins s σ H _ I h) fun us s1 ⟨vs, H1, I1, r, q⟩ => ⟨I1.kIn, F.call hr hg hb (hx σ) I1 r q⟩) he hpl) hdb)⟩
theorem pe_callG0 (F : FnG X.prog X.w X.K X.mg X.base CX k f fd ps sp) (hr : Room k X.A) (hg : X.A.guards = some []) (gl : Gl X x) (hm : X.mg x = some (.ref f)) (hk : PySem.W.keepIn X.K (.ref f) = true) (hb : Binds X.K fd ps []) (hx : ∀ σ, PassesAt CX X σ (E σ))
    (hdb : (x == ("__debug__" : Str)) = false) : PE X (.Call (.Name x p) [] [] pos) (tCallS sp E tNil) :=
  ⟨fun pins s σ H Q I h => wpAny_Call_Name_kw (ld_glob I gl hm (PySem.W.callWith_K0 I.kIn hk (F.call (us := []) hr hg hb (hx σ) I .nil h)) hdb)⟩
end
/-! ### the law's end -/
/-- nothing is tracked but the script -/
theorem law_callG {P : Program} {w : World} {K : PySem.W.Frag} {mg mb : Str → Option Value} {CX : CXT} {k : Nat} {fa a : Addr} {fd : FuncData} {x : Str} {sp : Sp} {s₁ : Shared} {vs : List Value} {ns : List Int}
    (KX : K.In s₁.heap) (kl : ∀ (a : Addr) (o : Obj), K.lookup a = some o → o.cls ≠ .type "list") (hns : s₁.heap.Ns mainGlobals mg) (hb : s₁.heap.Ns builtinsNs mb) (hbb : ∀ x : Str, x ≠ "__name__" → mb x = bootBuiltins x) (hlim : s₁.heap.NoLimit) (hg : s₁.gens = #[])
    (ha : s₁.heap.get? a = some { cls := .type "list", data := .seq vs.toArray }) (hi : IntsAre vs ns) (hl : ns.length ≤ sizeLine) (hr : Room k callerA)
    (F : ∀ base : Heap, K.In base → FnG P w K mg base CX k fa fd [x] sp) (hbind : ∀ (s : Shared) (u : Value), BindsTo s fd ⟨[u], []⟩ [(x, u)])
    (hsp : ∀ (H : Hp) (o : Obj), H a = some (.frz o (.lst (ns.map V.int))) → sp [.ref a] H (fun v _ => v = .bl true) fun _ _ _ => False)
    (hCX : ∀ H e s', CX [] H s₁ (fun _ _ _ => False) e s' → False) :
    codeAny (model P w) callerA (.call (.ref fa) ⟨[.ref a], []⟩) (fun r s' => r = .ok (.ret (.bool true)) ∧ OldK s₁.heap s'.heap ∧ s'.os = s₁.os ∧ AllBare s'.gens) s₁ := by
  have rv := vals_ints hi
  obtain ⟨ob, eob⟩ : ∃ ob : Obj, ob = { cls := .type "list", data := .seq vs.toArray } := ⟨_, rfl⟩
  have ha2 : s₁.heap.get? a = some ob := by rw [eob]; exact ha
  obtain ⟨H, eH⟩ : ∃ H : Hp, H = fun b => if b = a then some (.frz ob (.lst (ns.map V.int))) else none := ⟨_, rfl⟩
  have at_ : H a = some (.frz ob (.lst (ns.map V.int))) := by rw [eH]; exact if_pos rfl
  have off : ∀ {b : Addr}, b ≠ a → H b = none := fun h => by rw [eH]; exact if_neg h
  have hok : HOk P w H s₁.heap := fun b u z => by
    by_cases h : b = a
    · subst h
      rw [at_] at z
      cases z
      subst eob
      exact ⟨ha, by rw [List.length_map]; exact hl, vs, _, rv, ha⟩
    · rw [off h] at z
      cases z
  have ne : ∀ {b : Addr} {o : Obj}, s₁.heap.get? b = some o → o.cls ≠ .type "list" → b ≠ a := fun {b o} e c q => by
    subst q
    rw [ha2] at e
    cases e
    exact c (by rw [eob])
  have nd : ∀ {b : Addr} {o : Obj} {es : Array DictEntry} {ep : Nat}, s₁.heap.get? b = some o → o.data = .dict es ep → b ≠ a := fun {b o es ep} e d q => by
    subst q
    rw [ha2] at e
    cases e
    rw [eob] at d
    have d' : Data.seq vs.toArray _ = Data.dict es ep := d
    cases d'
  have kept : ∀ {b : Addr} {o : Obj}, s₁.heap.get? b = some o → b ≠ a → (hidT s₁.heap H).get? b = some o := fun e n => hidT_get e (off n)
  have nsK : ∀ {b : Addr} {m : Str → Option Value}, s₁.heap.Ns b m → (hidT s₁.heap H).Ns b m := fun {b m} ⟨o, es, ep, e, d, r⟩ => ⟨o, es, ep, kept e (nd e d), d, r⟩
  have hKb : K.In (hidT s₁.heap H) := fun b o e => kept (KX b o e) (ne (KX b o e) (kl b o e))
  have hM : Mod K mg (hidT s₁.heap H) := ⟨hKb, nsK hns, ⟨mb, nsK hb, hbb⟩, let ⟨mc, h1, h2⟩ := hlim; ⟨mc, nsK h1, h2⟩⟩
  have e0 : Env0 P w K mg (hidT s₁.heap H) callerA [] s₁ H := ⟨rfl, hM, fun b o e => of_hidT e, Nat.le_of_eq (hidT_size _ _), trivial, fun b hb => absurd (show b ∈ ([] : List Addr) from hb) (by simp), hok, .of_eq hg⟩
  refine codeAny_mono ((F _ hKb).run callerA [] s₁ H ⟨[.ref a], []⟩ [.ref a] [.ref a] _ _ hr rfl e0 (hbind s₁ (.ref a)) (.cons rfl .nil) (hsp H ob at_)) fun r s' h => ?_
  match r, h with
  | .error e, h => exact (hCX H e s' h).elim
  | .ok (.ret u), h =>
    obtain ⟨v, H', os, bare, un, hok', r', q⟩ := h
    have q' : v = .bl true := q
    subst q'
    obtain rfl : u = Value.bool true := r'
    refine ⟨rfl, OldK.of_keep fun b o e => ?_, os, bare⟩
    by_cases h : b = a
    · subst h
      obtain ⟨e1, _⟩ := hok' b _ (un.frzs b ob _ at_)
      rw [ha2] at e
      cases e
      exact e1
    · exact un.keep b o e (off h) (by intro z; exact absurd (show b ∈ ([] : List Addr) from z) (by simp)) (by simp)
theorem walk_ofG {l : PySem.W.OpenLaw} {n k : Nat} {q : Program} {loose : List Str} {XP : (Str → Option Value) → Heap → Prop} {YP : World → Heap → Prop} {d : DefRec} {CX : World → CXT} {x : Str}
    (hn : l.most = some n) (hn2 : n ≤ sizeLine) (hdf : d.params.defaults = []) (hr : Room k callerA)
    (F : ∀ (w : World) (mg : Str → Option Value) (fa : Addr) (h : Heap), YP w h → h.Ns mainGlobals mg → mg d.name = some (.ref fa) →
      ∃ (K : PySem.W.Frag) (fd : FuncData) (sp : Sp), K.In h ∧ goodK K = true ∧ (∀ (s : Shared) (u : Value), BindsTo s fd ⟨[u], []⟩ [(x, u)]) ∧
        (∀ (H : Hp) (a : Addr) (ns : List Int) (o : Obj), ns.length ≤ n → H a = some (.frz o (.lst (ns.map V.int))) → sp [.ref a] H (fun v _ => v = .bl true) fun _ _ _ => False) ∧
        ∀ base : Heap, K.In base → FnG l.prog w K mg base (CX w) k fa fd [x] sp)
    (hCX : ∀ (w : World) (H : Hp) (s : Shared) (e : Value) (s' : Shared), CX w [] H s (fun _ _ _ => False) e s' → False) :
    PySem.W.WalkO q loose XP YP l.row.toRowW d [] (fun f vs => PySem.call f vs) := by
  refine Att.attach_call hn hdf fun w s₀ s₁ mg mb fa o pm cd doc a vs ns G Y ho hd hcd hmg hobj hints hlen hg => ?_
  obtain ⟨K, fd, sp, KX, kg, hb, hsp, hF⟩ := F w mg fa _ Y G.T.g hmg
  exact law_callG KX (fun _ _ e => goodK_lst kg e) G.T.g G.T.b G.T.builtins G.T.nolimit hg hobj hints (Nat.le_trans hlen hn2) hr hF hb (fun H o h => hsp H a ns o hlen h) fun H e s' => hCX w H s₁ e s'
end Kr

set_option Elab.async false
set_option linter.all false
set_option maxRecDepth 100000
set_option maxHeartbeats 1000000
namespace Kr
open PySem PySem.Spec PyProof.Rows L2
/-! ### what a def of the small language promises -/
def PM.dep : PM → Nat
  | .sh => 0
  | .own n => n
  | .io n => n
def argE : List PM → List V → List D → List Ent
  | m :: ms, v :: vs, d :: ds => (v, m.dep, d) :: argE ms vs ds
  | _, _, _ => []
def ioE : List PM → List V → List D → List Ent
  | .io n :: ms, v :: vs, d :: ds => (v, n, d) :: ioE ms vs ds
  | .sh :: ms, _ :: vs, ds => ioE ms vs ds
  | .own _ :: ms, _ :: vs, ds => ioE ms vs ds
  | _, _, _ => []
def ResP (cl : Cl) (ms : List PM) (vs : List V) (T : List Ent) (Q : VK) (E : XK) : CRes → Prop
  | .ret n d io => ∀ H' v, Sep [] H' ((v, n, d) :: (ioE ms vs io ++ T)) → Q v H'
  | .ex c d io => ∀ H' dd x, H' dd = some (.xd [(fVal, x)]) → Sep [] H' ((x, 0, d) :: (ioE ms vs io ++ T)) → E (cl c) (some dd) H'
def spF (cl : Cl) (ms : List PM) (call : List D → Option CRes) : Sp := fun vs H Q E => vs.length = ms.length ∧ ∃ ds r T, ds.length = ms.length ∧ call ds = some r ∧ Sep [] H (argE ms vs ds ++ T) ∧ ResP cl ms vs T Q E r
/-- the names of a place: N the slots' names -/
structure Ck where
  N : List Str
  sc : Scope
  fx : Str → Bool
  kw : List (String × Nat × List Str × List Nat) := []
/-- how a call with keywords binds -/
def KB (K : PySem.W.Frag) (fo : FuncData) (ps : List Str) (np : Nat) (ks : List Str) (js : List Nat) : Prop := ∀ (s : Shared) (us ws : List Value), K.In s.heap → us.length = np → ws.length = ks.length → ∃ zs, permG js (us ++ ws) = some zs ∧ BindsTo s fo ⟨us, ks.zip ws⟩ (ps.zip zs)
/-- a place in the text: what may be called there -/
structure Good (T : Tb) (cl : Cl) (B : List Str) (k : Nat) (W : WX) (c : Ck) (X : Cx) : Prop where
  n : X.N = c.N
  nd : c.N.Nodup
  sc : X.env.scope = c.sc
  fx : X.fn = c.fx
  calm : X.calm = true
  rm : Room k X.A
  gd : X.A.guards = some []
  sys : ∃ o, X.base.get? sysModules = some o
  tk : Takes X W
  fr : ∀ x ∈ B, X.mg x = none
  fn : ∀ f fd, T f = some fd → ∃ a fo ps, X.mg (f : Str) = some (.ref a) ∧ PySem.W.keepIn X.K (.ref a) = true ∧ Binds X.K fo ps [] ∧ FnG X.prog X.w X.K X.mg X.base (L2.CX X.prog X.w) k a fo ps (spF cl fd.pm (callK T k f)) ∧ ∀ e ∈ c.kw, e.1 = f → KB X.K fo ps e.2.1 e.2.2.1 e.2.2.2
/-! ### argument lists -/
def vsE : List V → List EV → List Ent
  | x :: xs, u :: us => vE x u ++ vsE xs us
  | _, _ => []
def vLs (σ : L2.St) : List V → List EV → Prop
  | x :: xs, u :: us => vL σ x u ∧ vLs σ xs us
  | [], [] => True
  | _, _ => False
def tA (cl : Cl) (W : WX) (f : Sg → R (List EV)) : TA := fun σ H Q => ∃ ε T, State σ ε T H ∧ Rd cl σ T W (f ε) (fun us ε' => ∀ H' vs, State σ ε' (vsE vs us ++ T) H' → vLs σ vs us → Q vs H')
def tL (cl : Cl) (W : WX) (n : Nat) (f : Sg → R (List D)) : TA := fun σ H Q => ∃ ε T, State σ ε T H ∧ Rd cl σ T W (f ε) (fun ds ε' => ∀ H' vs, vs.length = ds.length → State σ ε' (entsOf n vs ds ++ T) H' → Q vs H')
def tT (cl : Cl) (W : WX) (f : Sg → R Bool) : TT := fun σ H Q => ∃ ε T, State σ ε T H ∧ Rd cl σ T W (f ε) (fun b ε' => ∀ H', State σ ε' T H' → Q b H')
def tP (cl : Cl) (W : WX) (f : Sg → R (Option Int)) : TO := fun σ H Q => ∃ ε T, State σ ε T H ∧ Rd cl σ T W (f ε) (fun b ε' => ∀ H', State σ ε' T H' → Q b H')
section
variable {cl : Cl} {W : WX} {σ : L2.St} {ε ε' : Sg} {T M : List Ent} {H H' : Hp} {x y : V} {n m i : Nat} {d e : D} {v u : EV}
theorem passArg_ok {pm : PM} (s : State σ ε (vE x v ++ T) H) (l : vL σ x v) {P : EV → Sg → Prop} (r : Rd cl σ T W (passArg pm v ε) P) : ∃ u ε', P u ε' ∧ State σ ε' (vE x u ++ T) H ∧ vL σ x u := by
  cases pm with
  | sh =>
    obtain ⟨⟨k, d, ε1⟩, h1, r⟩ := r.ofO
    exact ⟨_, _, r, s.esc l h1 |>.weak (Nat.zero_le _), trivial⟩
  | own n =>
    cases v with
    | dat k d =>
      obtain ⟨h, r⟩ := r.ite
      exact ⟨_, _, r, State.weak (n := k) s h, trivial⟩
    | loc i =>
      obtain ⟨⟨k, d⟩, h1, r⟩ := r.ofO
      obtain ⟨h, r⟩ := r.ite
      have s' : State σ ε T H := s
      obtain ⟨z, hz, s1⟩ := s'.take h1
      have lx : σ[i]? = some (some x) := l
      rw [lx] at hz
      cases hz
      exact ⟨_, _, r, s1.weak h, trivial⟩
  | io n =>
    cases v with
    | dat k d =>
      obtain ⟨h, r⟩ := r.ite
      exact ⟨_, _, r, State.weak (n := k) s h, trivial⟩
    | loc i => exact ⟨_, _, r, s, l⟩
theorem tE.app {f : Sg → R EV} {pm : PM} {g : Sg → R (List EV)} {Q : List V → Hp → Prop} (h : tA cl W (fun ε => (f ε).bind fun x ε1 => (passArg pm x ε1).bind fun y ε2 => (g ε2).bind fun ys ε3 => .ok (y :: ys) ε3) σ H Q) :
    tE cl W f σ H (fun x H1 => tA cl W g σ H1 fun xs H2 => Q (x :: xs) H2) := by
  obtain ⟨ε, T, s, r⟩ := h
  refine ⟨ε, T, s, r.bind.imp fun v ε1 r H1 x s1 l => ?_⟩
  obtain ⟨u, ε2, r, s2, l2⟩ := passArg_ok s1 l r.bind
  refine ⟨ε2, vE x u ++ T, s2, r.bind.more.imp fun us ε3 q H2 vs s3 l3 => q H2 (x :: vs) (s3.permT ?_) ⟨l2, l3⟩⟩
  show (vsE vs us ++ (vE x u ++ T)).Perm ((vE x u ++ vsE vs us) ++ T)
  rw [← List.append_assoc]
  exact List.Perm.append_right _ List.perm_append_comm
theorem tE.lpp {f : Sg → R EV} {g : Sg → R (List D)} {Q : List V → Hp → Prop} (h : tL cl W n (fun ε => (f ε).bind fun x ε1 => ofO (esc ε1 x) fun (m, d, ε2) => if n ≤ m then (g ε2).bind fun ds ε3 => .ok (d :: ds) ε3 else .st) σ H Q) :
    tE cl W f σ H (fun x H1 => tL cl W n g σ H1 fun xs H2 => Q (x :: xs) H2) := by
  obtain ⟨ε, T, s, r⟩ := h
  refine ⟨ε, T, s, r.bind.imp fun v ε1 r H1 x s1 l => ?_⟩
  obtain ⟨⟨m, d, ε2⟩, h1, r⟩ := r.ofO
  obtain ⟨hm, r⟩ := r.ite
  have s2 := (s1.esc l h1).weak hm
  refine ⟨ε2, (x, n, d) :: T, s2, (Rd.more (M := [(x, n, d)]) r.bind).imp fun ds ε3 q H2 vs hl s3 => q H2 (x :: vs) (by simp [hl]) (s3.permT ?_)⟩
  show (entsOf n vs ds ++ (x, n, d) :: T).Perm ((x, n, d) :: (entsOf n vs ds ++ T))
  exact List.perm_middle
/-! ### the io slots handed over, and back -/
def offIo : List EV → List PM → Sg → Sg
  | .loc i :: r, .io _ :: ms, ε => offIo r ms (ε.set i .un)
  | _ :: r, _ :: ms, ε => offIo r ms ε
  | _, _, ε => ε
theorem ioOk_len : ∀ {us : List EV} {ms : List PM}, ioOk ε us ms = true → us.length = ms.length
  | [], [], _ => rfl
  | [], _ :: _, h => by simp [ioOk] at h
  | .loc i :: r, [], h => by simp [ioOk] at h
  | .dat n d :: r, [], h => by simp [ioOk] at h
  | .loc i :: r, .io n :: ms, h => by
    simp only [ioOk, Bool.and_eq_true] at h
    simp [ioOk_len h.1.2]
  | .loc i :: r, .sh :: ms, h => by simp [ioOk] at h
  | .loc i :: r, .own n :: ms, h => by simp [ioOk] at h
  | .dat _ _ :: r, .sh :: ms, h => by simp only [ioOk, Bool.and_eq_true] at h; simp [ioOk_len h.2]
  | .dat _ _ :: r, .own n :: ms, h => by simp only [ioOk, Bool.and_eq_true] at h; simp [ioOk_len h.2]
  | .dat _ _ :: r, .io n :: ms, h => by simp only [ioOk, Bool.and_eq_true] at h; simp [ioOk_len h.2]
def noL (i : Nat) (r : List EV) : Bool := r.all fun x => match x with
  | .loc j => i != j
  | _ => true
theorem sval_ne (s : Sl) {j : Nat} (h : i ≠ j) : sval (ε.set i s) j = sval ε j := by
  unfold sval
  rw [List.getElem?_set_ne h]
theorem sval_same (h : i < ε.length) : sval (ε.set i (.v n d)) i = some (n, d) := by
  unfold sval
  rw [List.getElem?_set_self h]
theorem noL_cons {r : List EV} (h : noL i (u :: r) = true) : (∀ j, u = .loc j → i ≠ j) ∧ noL i r = true := by
  simp only [noL, List.all_cons, Bool.and_eq_true] at h
  refine ⟨fun j e => ?_, h.2⟩
  subst e
  simpa using h.1
theorem ioOk_set (s : Sl) : ∀ {r : List EV} {ms : List PM}, noL i r = true → ioOk ε r ms = true → ioOk (ε.set i s) r ms = true
  | [], [], _, _ => rfl
  | [], _ :: _, _, h => by simp [ioOk] at h
  | .loc j :: r, [], _, h => by simp [ioOk] at h
  | .dat n d :: r, [], _, h => by simp [ioOk] at h
  | .loc j :: r, .io n :: ms, hn, h => by
    obtain ⟨h1, h2⟩ := noL_cons hn
    simp only [ioOk, Bool.and_eq_true] at h ⊢
    rw [sval_ne s (h1 j rfl)]
    exact ⟨⟨h.1.1, ioOk_set s h2 h.1.2⟩, h.2⟩
  | .loc j :: r, .sh :: ms, _, h => by simp [ioOk] at h
  | .loc j :: r, .own n :: ms, _, h => by simp [ioOk] at h
  | .dat _ _ :: r, .sh :: ms, hn, h => by
    simp only [ioOk, Bool.and_eq_true] at h ⊢
    exact ⟨h.1, ioOk_set s (noL_cons hn).2 h.2⟩
  | .dat _ _ :: r, .own n :: ms, hn, h => by
    simp only [ioOk, Bool.and_eq_true] at h ⊢
    exact ⟨h.1, ioOk_set s (noL_cons hn).2 h.2⟩
  | .dat _ _ :: r, .io n :: ms, hn, h => by
    simp only [ioOk, Bool.and_eq_true] at h ⊢
    exact ⟨h.1, ioOk_set s (noL_cons hn).2 h.2⟩
theorem rs_set (s : Sl) (h : ∀ j, u = .loc j → i ≠ j) : rs (ε.set i s) u = rs ε u := by
  cases u with
  | dat n d => rfl
  | loc j => simp only [rs]; rw [sval_ne s (h j rfl)]
theorem argD_set (s : Sl) : ∀ {r : List EV}, noL i r = true → argD (ε.set i s) r = argD ε r
  | [], _ => rfl
  | u :: r, h => by
    obtain ⟨h1, h2⟩ := noL_cons h
    simp only [argD]
    rw [rs_set s h1, argD_set s h2]
theorem offIo_set (s : Sl) : ∀ {r : List EV} {ms : List PM} {ε : Sg}, noL i r = true → (offIo r ms ε).set i s = offIo r ms (ε.set i s)
  | [], ms, ε, _ => by cases ms <;> rfl
  | .loc j :: r, [], ε, _ => rfl
  | .dat _ _ :: r, [], ε, _ => rfl
  | .loc j :: r, .io n :: ms, ε, h => by
    obtain ⟨h1, h2⟩ := noL_cons h
    simp only [offIo]
    rw [offIo_set s h2, List.set_comm _ _ (Ne.symm (h1 j rfl))]
  | .loc j :: r, .sh :: ms, ε, h => by simp only [offIo]; exact offIo_set s (noL_cons h).2
  | .loc j :: r, .own n :: ms, ε, h => by simp only [offIo]; exact offIo_set s (noL_cons h).2
  | .dat _ _ :: r, .sh :: ms, ε, h => by simp only [offIo]; exact offIo_set s (noL_cons h).2
  | .dat _ _ :: r, .own n :: ms, ε, h => by simp only [offIo]; exact offIo_set s (noL_cons h).2
  | .dat _ _ :: r, .io n :: ms, ε, h => by simp only [offIo]; exact offIo_set s (noL_cons h).2
theorem io_out : ∀ {us : List EV} {ms : List PM} {vs : List V} {ds : List D} {ε : Sg} {T : List Ent}, ioOk ε us ms = true → argD ε us = some ds → vLs σ vs us → State σ ε (vsE vs us ++ T) H → State σ (offIo us ms ε) (argE ms vs ds ++ T) H
  | [], [], [], ds, ε, T, _, e, _, s => by cases e; exact s
  | [], [], _ :: _, ds, ε, T, _, e, l, s => l.elim
  | [], _ :: _, _, _, _, _, h, _, _, _ => by simp [ioOk] at h
  | _ :: _, _, [], _, _, _, _, _, l, _ => l.elim
  | .loc i :: r, [], _, _, _, _, h, _, _, _ => by simp [ioOk] at h
  | .dat n d :: r, [], _, _, _, _, h, _, _, _ => by simp [ioOk] at h
  | .loc i :: r, .io n :: ms, x :: vs, ds, ε, T, h, e, l, s => by
    simp only [ioOk, Bool.and_eq_true] at h
    obtain ⟨⟨h1, h2⟩, h3⟩ := h
    have h3 : noL i r = true := h3
    cases q : sval ε i with
    | none => rw [q] at h1; cases h1
    | some p =>
      obtain ⟨k, d⟩ := p
      rw [q] at h1
      simp only [Bool.and_eq_true, beq_iff_eq] at h1
      obtain ⟨rfl, _⟩ := h1
      simp only [argD, rs, q, Option.map_some, Option.bind_some] at e
      cases q2 : argD ε r with
      | none => rw [q2] at e; cases e
      | some ds' =>
        rw [q2] at e
        cases e
        have s' : State σ ε (vsE vs r ++ T) H := s
        obtain ⟨z, hz, s1⟩ := s'.take q
        have lx : σ[i]? = some (some x) := l.1
        rw [lx] at hz
        cases hz
        have s2 : State σ (ε.set i .un) (vsE vs r ++ (x, k, d) :: T) H := s1.permT List.perm_middle.symm
        have s3 := io_out (ioOk_set .un h3 h2) (by rw [argD_set .un h3]; exact q2) l.2 s2
        exact s3.permT List.perm_middle
  | .loc i :: r, .sh :: ms, _, _, _, _, h, _, _, _ => by simp [ioOk] at h
  | .loc i :: r, .own n :: ms, _, _, _, _, h, _, _, _ => by simp [ioOk] at h
  | .dat k d :: r, .sh :: ms, x :: vs, ds, ε, T, h, e, l, s => by
    simp only [ioOk, Bool.and_eq_true, beq_iff_eq] at h
    obtain ⟨rfl, h⟩ := h
    simp only [argD, rs, Option.bind_some] at e
    cases q2 : argD ε r with
    | none => rw [q2] at e; cases e
    | some ds' =>
      rw [q2] at e
      cases e
      have s2 : State σ ε (vsE vs r ++ (x, 0, d) :: T) H := State.permT s List.perm_middle.symm
      exact (io_out h q2 l.2 s2).permT List.perm_middle
  | .dat k d :: r, .own n :: ms, x :: vs, ds, ε, T, h, e, l, s => by
    simp only [ioOk, Bool.and_eq_true, beq_iff_eq] at h
    obtain ⟨rfl, h⟩ := h
    simp only [argD, rs, Option.bind_some] at e
    cases q2 : argD ε r with
    | none => rw [q2] at e; cases e
    | some ds' =>
      rw [q2] at e
      cases e
      have s2 : State σ ε (vsE vs r ++ (x, k, d) :: T) H := State.permT s List.perm_middle.symm
      exact (io_out h q2 l.2 s2).permT List.perm_middle
  | .dat k d :: r, .io n :: ms, x :: vs, ds, ε, T, h, e, l, s => by
    simp only [ioOk, Bool.and_eq_true, beq_iff_eq] at h
    obtain ⟨rfl, h⟩ := h
    simp only [argD, rs, Option.bind_some] at e
    cases q2 : argD ε r with
    | none => rw [q2] at e; cases e
    | some ds' =>
      rw [q2] at e
      cases e
      have s2 : State σ ε (vsE vs r ++ (x, k, d) :: T) H := State.permT s List.perm_middle.symm
      exact (io_out h q2 l.2 s2).permT List.perm_middle
theorem io_back : ∀ {us : List EV} {ms : List PM} {vs : List V} {io : List D} {ε ε2 : Sg} {T : List Ent}, ioOk ε us ms = true → putIo us ms io ε = some ε2 → vLs σ vs us → State σ (offIo us ms ε) (ioE ms vs io ++ T) H → State σ ε2 T H
  | [], [], [], [], ε, ε2, T, _, e, _, s => by cases e; exact s
  | [], [], [], _ :: _, ε, ε2, T, _, e, _, s => by simp [putIo] at e
  | [], [], _ :: _, _, ε, ε2, T, _, e, l, s => l.elim
  | [], _ :: _, _, _, _, _, _, h, _, _, _ => by simp [ioOk] at h
  | _ :: _, _, [], _, _, _, _, _, _, l, _ => l.elim
  | .loc i :: r, [], _, _, _, _, _, h, _, _, _ => by simp [ioOk] at h
  | .dat n d :: r, [], _, _, _, _, _, h, _, _, _ => by simp [ioOk] at h
  | .loc i :: r, .io n :: ms, x :: vs, [], ε, ε2, T, h, e, l, s => by simp [putIo] at e
  | .loc i :: r, .io n :: ms, x :: vs, d :: io, ε, ε2, T, h, e, l, s => by
    simp only [ioOk, Bool.and_eq_true] at h
    obtain ⟨⟨h1, h2⟩, h3⟩ := h
    have h3 : noL i r = true := h3
    simp only [putIo] at e
    simp only [offIo] at s
    have hi : i < ε.length := by
      cases q : sval ε i with
      | none => rw [q] at h1; cases h1
      | some p => exact sval_lt q
    have hl : (offIo r ms (ε.set i .un)).length = ε.length := by
      have go : ∀ (r : List EV) (ms : List PM) (ε : Sg), (offIo r ms ε).length = ε.length := by
        intro r
        induction r with
        | nil => intro ms ε; cases ms <;> rfl
        | cons u r ih =>
          intro ms ε
          cases ms with
          | nil => cases u <;> rfl
          | cons m ms => cases u <;> cases m <;> simp [offIo, ih]
      rw [go, List.length_set]
    have s1 := State.put' (i := i) s (by rw [hl]; exact hi) l.1
    rw [offIo_set _ h3, List.set_set] at s1
    exact io_back (ioOk_set _ h3 h2) e l.2 s1
  | .loc i :: r, .sh :: ms, _, _, _, _, _, h, _, _, _ => by simp [ioOk] at h
  | .loc i :: r, .own n :: ms, _, _, _, _, _, h, _, _, _ => by simp [ioOk] at h
  | .dat k d :: r, .sh :: ms, x :: vs, io, ε, ε2, T, h, e, l, s => by
    simp only [ioOk, Bool.and_eq_true] at h
    have e' : putIo r ms io ε = some ε2 := by cases io <;> exact e
    exact io_back h.2 e' l.2 s
  | .dat k d :: r, .own n :: ms, x :: vs, io, ε, ε2, T, h, e, l, s => by
    simp only [ioOk, Bool.and_eq_true] at h
    have e' : putIo r ms io ε = some ε2 := by cases io <;> exact e
    exact io_back h.2 e' l.2 s
  | .dat k d :: r, .io n :: ms, x :: vs, [], ε, ε2, T, h, e, l, s => by simp [putIo] at e
  | .dat k d :: r, .io n :: ms, x :: vs, d' :: io, ε, ε2, T, h, e, l, s => by
    simp only [ioOk, Bool.and_eq_true] at h
    exact io_back h.2 (show putIo r ms io ε = some ε2 from e) l.2 (State.drop s)
theorem vLs_len : ∀ {vs : List V} {us : List EV}, vLs σ vs us → vs.length = us.length
  | [], [], _ => rfl
  | [], _ :: _, h => h.elim
  | _ :: _, [], h => h.elim
  | _ :: _, _ :: _, h => by simp [vLs_len h.2]
theorem argD_len : ∀ {us : List EV} {ds : List D}, argD ε us = some ds → ds.length = us.length
  | [], _, h => by cases h; rfl
  | u :: r, ds, h => by
    simp only [argD] at h
    cases q : rs ε u with
    | none => rw [q] at h; cases h
    | some d =>
      rw [q] at h
      cases q2 : argD ε r with
      | none => rw [q2] at h; cases h
      | some ds' => rw [q2] at h; cases h; simp [argD_len q2]
/-- a call, its arguments by place -/
theorem call_ok {ms : List PM} {call : List D → Option CRes} {us : List EV} {vs : List V} {Q : VK} (s : State σ ε (vsE vs us ++ T) H) (l : vLs σ vs us)
    (r : Rd cl σ T W (if ioOk ε us ms = true then ofO (argD ε us) fun ds => ofO (call ds) fun r => match r with
      | .ret n d io => ofO (putIo us ms io ε) fun ε2 => .ok (.dat n d) ε2
      | .ex c d io => ofO (putIo us ms io ε) fun ε2 => .ex c d ε2 else .st) (PostE σ T Q)) : spF cl ms call vs H Q (WE W σ) := by
  obtain ⟨ho, r⟩ := r.ite
  obtain ⟨ds, hd, r⟩ := r.ofO
  obtain ⟨c, hc, r⟩ := r.ofO
  have lm := ioOk_len ho
  refine ⟨by rw [vLs_len l, lm], ds, c, ?_⟩
  obtain ⟨E, a, b⟩ := io_out ho hd l s
  have p : ∀ M : List Ent, (E ++ (M ++ T)).Perm (M ++ (E ++ T)) := fun M => by
    rw [← List.append_assoc, ← List.append_assoc]
    exact List.Perm.append_right _ List.perm_append_comm
  refine ⟨E ++ T, by rw [argD_len hd, lm], hc, b.perm (p _), ?_⟩
  cases c with
  | ret n d io =>
    obtain ⟨ε2, hp, r⟩ := r.ofO
    intro H' v sp
    have s2 : State σ (offIo us ms ε) (ioE ms vs io ++ (v, n, d) :: T) H' := ⟨E, a, sp.perm (by
      refine List.Perm.trans ?_ (List.Perm.append_left E List.perm_middle.symm)
      refine List.Perm.trans (List.Perm.cons _ (p _).symm) List.perm_middle.symm)⟩
    exact r H' v (io_back ho hp l s2) trivial
  | ex c d io =>
    obtain ⟨ε2, hp, r⟩ := r.ofO
    intro H' dd x hx sp
    have s2 : State σ (offIo us ms ε) (ioE ms vs io ++ (x, 0, d) :: T) H' := ⟨E, a, sp.perm (by
      refine List.Perm.trans ?_ (List.Perm.append_left E List.perm_middle.symm)
      refine List.Perm.trans (List.Perm.cons _ (p _).symm) List.perm_middle.symm)⟩
    exact r H' dd x hx (io_back ho hp l s2)
end
end Kr

set_option Elab.async false
set_option linter.all false
set_option maxRecDepth 100000
set_option maxHeartbeats 1000000
namespace Kr
open PySem PySem.Spec PyProof.Rows L2
section
variable {X : Cx} {cl : Cl} {W : WX} {σ : L2.St} {ε : Sg} {T M : List Ent} {H H' : Hp} {x y : V} {n m i : Nat} {d e : D} {v u : EV} {Q : VK} {a b c : Expr} {pos : Pos} {f g h : Sg → R EV}
theorem tE.q {Q' : VK} (h : tE cl W f σ H Q) (k : ∀ x H, Q x H → Q' x H) : tE cl W f σ H Q' := by
  obtain ⟨ε, T, s, r⟩ := h
  exact ⟨ε, T, s, r.imp fun v ε1 p H1 x s1 l => k _ _ (p H1 x s1 l)⟩
theorem e_var {x : Str} (hN : X.N[i]? = some x) (hv : Vis X.env.scope x) (hd : (x == ("__debug__" : Str)) = false) (hcd : (x == ("__classdict__" : Str)) = false) : PE X (.Name x pos) (tE cl W fun ε => ofO (sval ε i) fun _ => .ok (.loc i) ε) :=
  PE.mono (pe_var hN hv hd hcd) fun σ H Q h => by
    obtain ⟨ε, T, s, r⟩ := h
    obtain ⟨⟨k, d⟩, q, r⟩ := r.ofO
    obtain ⟨z, hz, _⟩ := s.take q
    exact ⟨z, hz, r H z s hz⟩
def cstOk : D → Const → Bool
  | .none, .none => true
  | .bool b, .bool c => b == c
  | .int i, .int j => decide (i = j)
  | .str x, .str y => decide (x = y)
  | _, _ => false
theorem e_cst {j : Nat} {k : Const} (h : cstOk d k = true) : PE X (.Constant k j pos) (tE cl W fun ε => .ok (.dat 0 d) ε) := by
  cases d <;> cases k <;> first | (cases h; done) | skip
  · exact PE.mono pe_non fun σ H Q ⟨ε, T, s, r⟩ => r H _ s.pnone trivial
  · obtain rfl := eq_of_beq h
    exact PE.mono pe_bl fun σ H Q ⟨ε, T, s, r⟩ => r H _ (s.pbool _) trivial
  · obtain rfl := of_decide_eq_true h
    exact PE.mono pe_int fun σ H Q ⟨ε, T, s, r⟩ => r H _ (s.pint _) trivial
  · obtain rfl := of_decide_eq_true h
    exact PE.mono pe_str fun σ H Q ⟨ε, T, s, r⟩ => r H _ (s.pstr _) trivial
theorem e_cn {j : Nat} : PE X (.Constant .none j pos) (tE cl W fun ε => .ok (.dat n .none) ε) :=
  PE.mono pe_non fun σ H Q ⟨ε, T, s, r⟩ => r H _ (s.pure fun _ => .non) trivial
theorem e_op {o : O2} (ha : PE X a (tE cl W f)) (hb : PE X b (tE cl W g)) : PE X (.BinOp a (opOf o) b pos) (tE cl W fun ε => (f ε).bind fun x ε1 => (g ε1).bind fun y ε2 => ofO (bor ε2 x) fun d => ofO (bor ε2 y) fun e => ofO (binop o d e) fun r => .ok (.dat r.1 r.2) ε2) :=
  PE.mono (pe_op (op_bin o) ha hb) fun σ H Q h => h.b1.q fun x H1 h => h.b2.q fun y H2 h => bin_ok h
theorem e_neg (ha : PE X a (tE cl W f)) : PE X (.UnaryOp .USub a pos) (tE cl W fun ε => (f ε).bind fun x ε1 => ofO (rs ε1 x) fun d => match d with
    | .int i => .ok (.dat 0 (.int (-i))) ε1
    | _ => .st) :=
  PE.mono (pe_un un_neg ha) fun σ H Q h => h.b1.q fun x H1 ⟨ε, T, v, s, l, r⟩ => by
    obtain ⟨d, hd, r⟩ := r.ofO
    cases d <;> first | exact r.elim | skip
    exact ⟨_, s.int_ l hd, r H1 _ (s.dropN.pint _) trivial⟩
theorem e_cmp {o : OC} (hu : X.A.units + 65 < cLine) (hm : behindInMarks (cmpOf o) b = false) (ha : PE X a (tE cl W f)) (hb : PE X b (tE cl W g)) : PE X (.Compare a [cmpOf o] [b] pos) (tE cl W fun ε => (f ε).bind fun x ε1 => (g ε1).bind fun y ε2 => ofO (rs ε2 x) fun d => ofO (rs ε2 y) fun e => ofO (cmpop o d e) fun r => .ok (.dat 0 (.bool r)) ε2) :=
  PE.mono (pe_cmpR (op_cmp hu o) ha hb hm) fun σ H Q h => h.b1.q fun x H1 h => h.b2.q fun y H2 h => cmp_ok h
/-- behind a value, whatever comes -/
def NxP {β : Type} (cl : Cl) (W : WX) (k : EV → Sg → R β) (Po : List Ent → β → Sg → Prop) (σ : L2.St) : VK := fun x H => ∃ ε T v, State σ ε (vE x v ++ T) H ∧ vL σ x v ∧ Rd cl σ T W (k v ε) (Po T)
def Nx2P {β : Type} (cl : Cl) (W : WX) (k : EV → EV → Sg → R β) (Po : List Ent → β → Sg → Prop) (σ : L2.St) (x y : V) (H : Hp) : Prop := ∃ ε T v w, State σ ε (vE y w ++ (vE x v ++ T)) H ∧ vL σ x v ∧ vL σ y w ∧ Rd cl σ T W (k v w ε) (Po T)
def PostB (σ : L2.St) (Q : Bool → Hp → Prop) : List Ent → Bool → Sg → Prop := fun T b ε' => ∀ H', State σ ε' T H' → Q b H'
theorem go1 {β : Type} {k : EV → Sg → R β} {Po : List Ent → β → Sg → Prop} (s : State σ ε T H) (r : Rd cl σ T W ((f ε).bind k) (Po T)) : tE cl W f σ H (NxP cl W k Po σ) :=
  ⟨ε, T, s, r.bind.imp fun v ε1 q H1 x s1 l => ⟨ε1, T, v, s1, l, q⟩⟩
theorem go2 {β : Type} {k : EV → EV → Sg → R β} {Po : List Ent → β → Sg → Prop} (h : NxP cl W (fun v ε => (g ε).bind (k v)) Po σ x H) : tE cl W g σ H (Nx2P cl W k Po σ x) := by
  obtain ⟨ε, T, v, s, l, r⟩ := h
  exact ⟨ε, vE x v ++ T, s, r.bind.imp (fun w ε1 q H1 y s1 l1 => ⟨ε1, T, v, w, s1, l, l1, q⟩) |>.more⟩
theorem tst_bind {r : R EV} {k : EV → Sg → R EV} : tstR (r.bind k) = r.bind fun v ε => tstR (k v ε) := by cases r <;> rfl
theorem tst_ofO {α : Type} {o : Option α} {k : α → R EV} : tstR (ofO o k) = ofO o fun a => tstR (k a) := by cases o <;> rfl
theorem t_cmp {o : OC} (hu : X.A.units + 65 < cLine) (hm : behindInMarks (cmpOf o) b = false) (ha : PE X a (tE cl W f)) (hb : PE X b (tE cl W g)) : PT X (.Compare a [cmpOf o] [b] pos) (tT cl W fun ε => tstR ((f ε).bind fun x ε1 => (g ε1).bind fun y ε2 => ofO (rs ε2 x) fun d => ofO (rs ε2 y) fun e => ofO (cmpop o d e) fun r => .ok (.dat 0 (.bool r)) ε2)) :=
  PT.mono (pt_cmpR (op_cmp hu o) ha hb hm) fun σ H Q h => by
    obtain ⟨ε, T, s, r⟩ := h
    simp only [tst_bind, tst_ofO] at r
    refine (go1 (Po := PostB σ Q) s r).q fun x H1 h => (go2 h).q fun y H2 ⟨ε, T, v, w, s, lx, ly, r⟩ => ?_
    obtain ⟨d, h1, r⟩ := r.ofO
    obtain ⟨e, h2, r⟩ := r.ofO
    obtain ⟨k, h3, r⟩ := r.ofO
    obtain ⟨f1, f2⟩ := s.fz2 lx ly h1 h2
    exact cmp_fact f1 f2 h3 ⟨k, rfl, r _ s.none2⟩
theorem e_chain {o p : OC} (hu : X.A.units + 65 < cLine) (hm : lastMarks [cmpOf o, cmpOf p] [b, c] = false) (ha : PE X a (tE cl W f)) (hb : PE X b (tE cl W g)) (hc : PE X c (tE cl W h)) : PE X (.Compare a [cmpOf o, cmpOf p] [b, c] pos)
    (tE cl W fun ε => (f ε).bind fun x ε1 => (g ε1).bind fun y ε2 => ofO (rs ε2 x) fun d => ofO (rs ε2 y) fun e => ofO (cmpop o d e) fun r =>
      if r = true then (h ε2).bind fun z ε3 => ofO (rs ε3 y) fun e' => ofO (rs ε3 z) fun f => ofO (cmpop p e' f) fun r' => .ok (.dat 0 (.bool r')) ε3 else .ok (.dat 0 (.bool false)) ε2) :=
  PE.mono (pe_chain (op_cmp hu o) (op_cmp hu p) ha hb hc hm) fun σ H Q hh => hh.b1.q fun x H1 hh => hh.b2.q fun y H2 ⟨ε, T, v, w, s, lx, ly, r⟩ => by
    obtain ⟨d, h1, r⟩ := r.ofO
    obtain ⟨e, h2, r⟩ := r.ofO
    obtain ⟨k, h3, r⟩ := r.ofO
    obtain ⟨f1, f2⟩ := s.fz2 lx ly h1 h2
    refine cmp_fact f1 f2 h3 ⟨k, rfl, ?_⟩
    cases k with
    | false => exact r _ _ (s.none2.pbool _) trivial
    | true =>
      rw [if_pos rfl] at r ⊢
      refine ⟨ε, vE y w ++ T, (s.comm).dropN, (Rd.more r.bind).imp fun u ε1 r H3 z s3 l3 => ?_⟩
      obtain ⟨d2, h1, r⟩ := r.ofO
      obtain ⟨e2, h2, r⟩ := r.ofO
      obtain ⟨k2, h3, r⟩ := r.ofO
      obtain ⟨f1, f2⟩ := s3.fz2 ly l3 h1 h2
      exact cmp_fact f1 f2 h3 (r _ _ (s3.none2.pbool _) trivial)
theorem t_chain {o p : OC} (hu : X.A.units + 65 < cLine) (hm : lastMarks [cmpOf o, cmpOf p] [b, c] = false) (ha : PE X a (tE cl W f)) (hb : PE X b (tE cl W g)) (hc : PE X c (tE cl W h)) : PT X (.Compare a [cmpOf o, cmpOf p] [b, c] pos)
    (tT cl W fun ε => tstR ((f ε).bind fun x ε1 => (g ε1).bind fun y ε2 => ofO (rs ε2 x) fun d => ofO (rs ε2 y) fun e => ofO (cmpop o d e) fun r =>
      if r = true then (h ε2).bind fun z ε3 => ofO (rs ε3 y) fun e' => ofO (rs ε3 z) fun f => ofO (cmpop p e' f) fun r' => .ok (.dat 0 (.bool r')) ε3 else .ok (.dat 0 (.bool false)) ε2)) :=
  PT.mono (pt_chain (op_cmp hu o) (op_cmp hu p) ha hb hc hm) fun σ H Q hh => by
    obtain ⟨ε, T, s, r⟩ := hh
    simp only [tst_bind, tst_ofO] at r
    refine (go1 (Po := PostB σ Q) s r).q fun x H1 h => (go2 h).q fun y H2 ⟨ε, T, v, w, s, lx, ly, r⟩ => ?_
    obtain ⟨d, h1, r⟩ := r.ofO
    obtain ⟨e, h2, r⟩ := r.ofO
    obtain ⟨k, h3, r⟩ := r.ofO
    obtain ⟨f1, f2⟩ := s.fz2 lx ly h1 h2
    refine cmp_fact f1 f2 h3 ⟨k, rfl, ?_⟩
    cases k with
    | false => exact ⟨_, rfl, r _ s.none2⟩
    | true =>
      rw [if_pos rfl] at r ⊢
      simp only [tst_bind, tst_ofO] at r
      refine ⟨ε, vE y w ++ T, (s.comm).dropN, (Rd.more r.bind).imp fun u ε1 r H3 z s3 l3 => ?_⟩
      obtain ⟨d2, h1, r⟩ := r.ofO
      obtain ⟨e2, h2, r⟩ := r.ofO
      obtain ⟨k2, h3, r⟩ := r.ofO
      obtain ⟨f1, f2⟩ := s3.fz2 ly l3 h1 h2
      exact cmp_fact f1 f2 h3 ⟨k2, rfl, r _ s3.none2⟩
/-- a op1 b op2 c op3 d -/
def tCh3 (r r' r2 : R2) (ta tb tc td : TE) : TE := fun σ H Q => ta σ H fun x H1 => tb σ H1 fun y H2 => r x y H2 fun z H3 => ∃ k, z = .bl k ∧
  (if k = true then tc σ H3 fun w' H4 => r' y w' H4 fun z' H5 => ∃ k', z' = .bl k' ∧ (if k' = true then td σ H5 fun u H6 => r2 w' u H6 Q else Q (.bl false) H5) else Q (.bl false) H3)
theorem pe_ch3 {op op' op2 : CmpOp} {r r' r2 : R2} {d : Expr} {ta tb tc td : TE} (ho : OpR X (compareOp op) r) (ho' : OpR X (compareOp op') r') (ho2 : OpR X (compareOp op2) r2) (ha : PE X a ta) (hb : PE X b tb) (hc : PE X c tc) (hd : PE X d td)
    (hm : lastMarks [op, op', op2] [b, c, d] = false) : PE X (.Compare a [op, op', op2] [b, c, d] pos) (tCh3 r r' r2 ta tb tc td) := by
  refine ⟨fun pins s σ H Q I h => ?_⟩
  refine Compare_chain (thn (ha.run pins s σ H _ I h) fun v s1 ⟨x, H1, I1, r1, q1⟩ => chain_link (thn (hb.run pins s1 σ H1 _ I1 q1) fun u s2 ⟨y, H2, I2, r2, q2⟩ =>
    thn (ho pins s2 σ H2 x y v u _ I2 r1 r2 q2) fun d s3 ⟨z, H3, I3, r3, k, e, q3⟩ => ?_)) hm
  subst e
  cases r3
  refine wpAny_truthy_bool ?_
  cases k with
  | false => exact ite_ff ⟨.bl false, H3, I3, rfl, q3⟩
  | true =>
    refine ite_tt (chain_link (thn (hc.run pins s3 σ H3 _ I3 q3) fun w' s4 ⟨z', H4, I4, r4, q4⟩ => thn (ho' pins s4 σ H4 y z' u w' _ I4 r2 r4 q4) fun d' s5 ⟨z2, H5, I5, r5, k2, e2, q5⟩ => ?_))
    subst e2
    cases r5
    refine wpAny_truthy_bool ?_
    cases k2 with
    | false => exact ite_ff ⟨.bl false, H5, I5, rfl, q5⟩
    | true => exact ite_tt (chain_last (thn (hd.run pins s5 σ H5 _ I5 q5) fun w2 s6 ⟨z3, H6, I6, r6, q6⟩ => ho2 pins s6 σ H6 z' z3 w' w2 Q I6 r4 r6 q6))
theorem pt_ch3 {op op' op2 : CmpOp} {r r' r2 : R2} {d : Expr} {ta tb tc td : TE} (ho : OpR X (compareOp op) r) (ho' : OpR X (compareOp op') r') (ho2 : OpR X (compareOp op2) r2) (ha : PE X a ta) (hb : PE X b tb) (hc : PE X c tc) (hd : PE X d td)
    (hm : lastMarks [op, op', op2] [b, c, d] = false) : PT X (.Compare a [op, op', op2] [b, c, d] pos) (tTest (tCh3 r r' r2 ta tb tc td)) := by
  refine ⟨fun pins s σ H Q I h => ?_⟩
  refine isTrue_chain (thn (ha.run pins s σ H _ I h) fun v s1 ⟨x, H1, I1, r1, q1⟩ => test_link (thn (hb.run pins s1 σ H1 _ I1 q1) fun u s2 ⟨y, H2, I2, r2, q2⟩ =>
    thn (ho pins s2 σ H2 x y v u _ I2 r1 r2 q2) fun d s3 ⟨z, H3, I3, r3, k, e, q3⟩ => ?_)) hm
  subst e
  cases r3
  refine wpAny_truthy_bool ?_
  cases k with
  | false =>
    obtain ⟨k', e', q'⟩ := q3
    cases e'
    exact ite_ff ⟨H3, I3, q'⟩
  | true =>
    refine ite_tt (test_link (thn (hc.run pins s3 σ H3 _ I3 q3) fun w' s4 ⟨z', H4, I4, r4, q4⟩ => thn (ho' pins s4 σ H4 y z' u w' _ I4 r2 r4 q4) fun d' s5 ⟨z2, H5, I5, r5, k2, e2, q5⟩ => ?_))
    subst e2
    cases r5
    refine wpAny_truthy_bool ?_
    cases k2 with
    | false =>
      obtain ⟨k', e', q'⟩ := q5
      cases e'
      exact ite_ff ⟨H5, I5, q'⟩
    | true =>
      refine ite_tt (test_last (thn (hd.run pins s5 σ H5 _ I5 q5) fun w2 s6 ⟨z3, H6, I6, r6, q6⟩ => thn (ho2 pins s6 σ H6 z' z3 w' w2 _ I6 r4 r6 q6) fun d2 s7 ⟨z4, H7, I7, r7, k3, e3, q7⟩ => ?_))
      subst e3
      cases r7
      exact wpAny_truthy_bool ⟨H7, I7, q7⟩
theorem e_ch3 {o p q : OC} {d : Expr} {f4 : Sg → R EV} (hu : X.A.units + 65 < cLine) (hm : lastMarks [cmpOf o, cmpOf p, cmpOf q] [b, c, d] = false) (ha : PE X a (tE cl W f)) (hb : PE X b (tE cl W g)) (hc : PE X c (tE cl W h)) (hd : PE X d (tE cl W f4)) : PE X (.Compare a [cmpOf o, cmpOf p, cmpOf q] [b, c, d] pos)
    (tE cl W fun ε => (f ε).bind fun x ε1 => (g ε1).bind fun y ε2 => ofO (rs ε2 x) fun d1 => ofO (rs ε2 y) fun d2 => ofO (cmpop o d1 d2) fun r =>
      if r = true then (h ε2).bind fun z ε3 => ofO (rs ε3 y) fun d3 => ofO (rs ε3 z) fun d4 => ofO (cmpop p d3 d4) fun r' =>
        if r' = true then (f4 ε3).bind fun u ε4 => ofO (rs ε4 z) fun d5 => ofO (rs ε4 u) fun d6 => ofO (cmpop q d5 d6) fun r2 => .ok (.dat 0 (.bool r2)) ε4 else .ok (.dat 0 (.bool false)) ε3
      else .ok (.dat 0 (.bool false)) ε2) :=
  PE.mono (pe_ch3 (op_cmp hu o) (op_cmp hu p) (op_cmp hu q) ha hb hc hd hm) fun σ H Q hh => hh.b1.q fun x H1 hh => hh.b2.q fun y H2 ⟨ε, T, v, w, s, lx, ly, r⟩ => by
    obtain ⟨d, h1, r⟩ := r.ofO
    obtain ⟨e, h2, r⟩ := r.ofO
    obtain ⟨k, h3, r⟩ := r.ofO
    obtain ⟨f1, f2⟩ := s.fz2 lx ly h1 h2
    refine cmp_fact f1 f2 h3 ⟨k, rfl, ?_⟩
    cases k with
    | false => exact r _ _ (s.none2.pbool _) trivial
    | true =>
      rw [if_pos rfl] at r ⊢
      refine ⟨ε, vE y w ++ T, (s.comm).dropN, (Rd.more r.bind).imp fun u ε1 r H3 z s3 l3 => ?_⟩
      obtain ⟨d2, h1, r⟩ := r.ofO
      obtain ⟨e2, h2, r⟩ := r.ofO
      obtain ⟨k2, h3, r⟩ := r.ofO
      obtain ⟨f1, f2⟩ := s3.fz2 ly l3 h1 h2
      refine cmp_fact f1 f2 h3 ⟨k2, rfl, ?_⟩
      cases k2 with
      | false => exact r _ _ (s3.none2.pbool _) trivial
      | true =>
        rw [if_pos rfl] at r ⊢
        refine ⟨ε1, vE z u ++ T, (s3.comm).dropN, (Rd.more r.bind).imp fun u' ε4 r H4 z' s4 l4 => ?_⟩
        obtain ⟨d5, h1, r⟩ := r.ofO
        obtain ⟨e5, h2, r⟩ := r.ofO
        obtain ⟨k5, h3, r⟩ := r.ofO
        obtain ⟨f1, f2⟩ := s4.fz2 l3 l4 h1 h2
        exact cmp_fact f1 f2 h3 (r _ _ (s4.none2.pbool _) trivial)
theorem t_ch3 {o p q : OC} {d : Expr} {f4 : Sg → R EV} (hu : X.A.units + 65 < cLine) (hm : lastMarks [cmpOf o, cmpOf p, cmpOf q] [b, c, d] = false) (ha : PE X a (tE cl W f)) (hb : PE X b (tE cl W g)) (hc : PE X c (tE cl W h)) (hd : PE X d (tE cl W f4)) : PT X (.Compare a [cmpOf o, cmpOf p, cmpOf q] [b, c, d] pos)
    (tT cl W fun ε => tstR ((f ε).bind fun x ε1 => (g ε1).bind fun y ε2 => ofO (rs ε2 x) fun d1 => ofO (rs ε2 y) fun d2 => ofO (cmpop o d1 d2) fun r =>
      if r = true then (h ε2).bind fun z ε3 => ofO (rs ε3 y) fun d3 => ofO (rs ε3 z) fun d4 => ofO (cmpop p d3 d4) fun r' =>
        if r' = true then (f4 ε3).bind fun u ε4 => ofO (rs ε4 z) fun d5 => ofO (rs ε4 u) fun d6 => ofO (cmpop q d5 d6) fun r2 => .ok (.dat 0 (.bool r2)) ε4 else .ok (.dat 0 (.bool false)) ε3
      else .ok (.dat 0 (.bool false)) ε2)) :=
  PT.mono (pt_ch3 (op_cmp hu o) (op_cmp hu p) (op_cmp hu q) ha hb hc hd hm) fun σ H Q hh => by
    obtain ⟨ε, T, s, r⟩ := hh
    simp only [tst_bind, tst_ofO] at r
    refine (go1 (Po := PostB σ Q) s r).q fun x H1 h => (go2 h).q fun y H2 ⟨ε, T, v, w, s, lx, ly, r⟩ => ?_
    obtain ⟨d, h1, r⟩ := r.ofO
    obtain ⟨e, h2, r⟩ := r.ofO
    obtain ⟨k, h3, r⟩ := r.ofO
    obtain ⟨f1, f2⟩ := s.fz2 lx ly h1 h2
    refine cmp_fact f1 f2 h3 ⟨k, rfl, ?_⟩
    cases k with
    | false => exact ⟨_, rfl, r _ s.none2⟩
    | true =>
      rw [if_pos rfl] at r ⊢
      simp only [tst_bind, tst_ofO] at r
      refine ⟨ε, vE y w ++ T, (s.comm).dropN, (Rd.more r.bind).imp fun u ε1 r H3 z s3 l3 => ?_⟩
      obtain ⟨d2, h1, r⟩ := r.ofO
      obtain ⟨e2, h2, r⟩ := r.ofO
      obtain ⟨k2, h3, r⟩ := r.ofO
      obtain ⟨f1, f2⟩ := s3.fz2 ly l3 h1 h2
      refine cmp_fact f1 f2 h3 ⟨k2, rfl, ?_⟩
      cases k2 with
      | false => exact ⟨_, rfl, r _ s3.none2⟩
      | true =>
        rw [if_pos rfl] at r ⊢
        simp only [tst_bind, tst_ofO] at r
        refine ⟨ε1, vE z u ++ T, (s3.comm).dropN, (Rd.more r.bind).imp fun u' ε4 r H4 z' s4 l4 => ?_⟩
        obtain ⟨d5, h1, r⟩ := r.ofO
        obtain ⟨e5, h2, r⟩ := r.ofO
        obtain ⟨k5, h3, r⟩ := r.ofO
        obtain ⟨f1, f2⟩ := s4.fz2 l3 l4 h1 h2
        exact cmp_fact f1 f2 h3 ⟨k5, rfl, r _ s4.none2⟩
/-! ### truth -/
theorem Fz.tru {F : Addr → Prop} {K : PySem.W.Frag} (h : Fz F H x d) (ho : truOk d = true) : TruV K x H (truD d) := by
  cases d with
  | none => rw [h.none_]; rfl
  | bool b => rw [h.bool_]; rfl
  | int i => rw [h.int_]; rfl
  | str z => rw [h.str_]; exact ⟨of_decide_eq_true ho, rfl⟩
  | list ds =>
    obtain ⟨a, vs, rfl, r, al⟩ := h.list
    refine .inl ⟨vs, .inl r, ?_⟩
    have := al.length
    cases ds <;> cases vs <;> first | rfl | (simp at this)
  | tuple ds =>
    obtain ⟨a, vs, rfl, r, al⟩ := h.tuple
    refine .inr (.inl ⟨vs, .inl (.inl r), ?_⟩)
    have := al.length
    cases ds <;> cases vs <;> first | rfl | (simp at this)
  | dict ps => cases ho
theorem t_gen (ha : PE X a (tE cl W f)) (he : ∀ whole, isTrue a X.env whole = (do let v ← whole; standAt a.pos; holding [v] (truthy v))) : PT X a (tT cl W fun ε => tstR (f ε)) :=
  PT.mono (pt_truth ha he) fun σ H Q ⟨ε, T, s, r⟩ => ⟨ε, T, s, r.bind.imp fun v ε1 r H1 x s1 l => by
    obtain ⟨d, hd, r⟩ := r.ofO
    obtain ⟨ho, r⟩ := r.ite
    obtain ⟨F, fz⟩ := s1.fz l hd
    exact ⟨_, fz.tru ho, r _ s1.dropN⟩⟩
theorem e_not (ha : PE X a (tE cl W f)) : PE X (.UnaryOp .Not a pos) (tE cl W fun ε => (f ε).bind fun x ε1 => ofO (rs ε1 x) fun d => if truOk d = true then .ok (.dat 0 (.bool (!truD d))) ε1 else .st) :=
  PE.mono (pe_notT ha) fun σ H Q h => h.b1.q fun x H1 ⟨ε, T, v, s, l, r⟩ => by
    obtain ⟨d, hd, r⟩ := r.ofO
    obtain ⟨ho, r⟩ := r.ite
    obtain ⟨F, fz⟩ := s.fz l hd
    exact ⟨_, fz.tru ho, r _ _ (s.dropN.pbool _) trivial⟩
theorem t_not (ha : PT X a (tT cl W fun ε => tstR (f ε))) : PT X (.UnaryOp .Not a pos) (tT cl W fun ε => tstR ((f ε).bind fun x ε1 => ofO (rs ε1 x) fun d => if truOk d = true then .ok (.dat 0 (.bool (!truD d))) ε1 else .st)) :=
  PT.mono (pt_not ha) fun σ H Q ⟨ε, T, s, r⟩ => ⟨ε, T, s, by
    have e : tstR ((f ε).bind fun x ε1 => ofO (rs ε1 x) fun d => if truOk d = true then .ok (.dat 0 (.bool (!truD d))) ε1 else .st) = (tstR (f ε)).bind fun b ε => .ok (!b) ε := by
      unfold tstR
      cases f ε with
      | st => rfl
      | ex c d ε1 => rfl
      | ok v ε1 =>
        simp only [R.bind]
        cases rs ε1 v with
        | none => rfl
        | some d =>
          by_cases h : truOk d = true
          · simp only [ofO, if_pos h, R.bind, rs]; rfl
          · simp only [ofO, if_neg h, R.bind]
    simp only [e] at r
    exact r.bind⟩
section
variable {rest : List Expr}
theorem e_and (ha : PE X a (tE cl W f)) (hb : PE X (.BoolOp .And (b :: rest) pos) (tE cl W g)) : PE X (.BoolOp .And (a :: b :: rest) pos) (tE cl W fun ε => (f ε).bind fun x ε1 => ofO (rs ε1 x) fun d => if truOk d = true then (if truD d = true then g ε1 else .ok x ε1) else .st) :=
  PE.mono (pe_andT ha hb) fun σ H Q h => h.b1.q fun x H1 ⟨ε, T, v, s, l, r⟩ => by
    obtain ⟨d, hd, r⟩ := r.ofO
    obtain ⟨ho, r⟩ := r.ite
    obtain ⟨F, fz⟩ := s.fz l hd
    refine ⟨_, fz.tru ho, ?_⟩
    by_cases ht : truD d = true
    · rw [if_pos ht] at r ⊢
      exact ⟨ε, T, s.dropN, r⟩
    · rw [if_neg ht] at r ⊢
      exact r _ _ s l
theorem e_or (ha : PE X a (tE cl W f)) (hb : PE X (.BoolOp .Or (b :: rest) pos) (tE cl W g)) : PE X (.BoolOp .Or (a :: b :: rest) pos) (tE cl W fun ε => (f ε).bind fun x ε1 => ofO (rs ε1 x) fun d => if truOk d = true then (if truD d = true then .ok x ε1 else g ε1) else .st) :=
  PE.mono (pe_orT ha hb) fun σ H Q h => h.b1.q fun x H1 ⟨ε, T, v, s, l, r⟩ => by
    obtain ⟨d, hd, r⟩ := r.ofO
    obtain ⟨ho, r⟩ := r.ite
    obtain ⟨F, fz⟩ := s.fz l hd
    refine ⟨_, fz.tru ho, ?_⟩
    by_cases ht : truD d = true
    · rw [if_pos ht] at r ⊢
      exact r _ _ s l
    · rw [if_neg ht] at r ⊢
      exact ⟨ε, T, s.dropN, r⟩
theorem tst_and {f g : Sg → R EV} {ε : Sg} {σ : L2.St} {T : List Ent} {P : Bool → Sg → Prop} (r : Rd cl σ T W (tstR ((f ε).bind fun x ε1 => ofO (rs ε1 x) fun d => if truOk d = true then (if truD d = true then g ε1 else .ok x ε1) else .st)) P) :
    Rd cl σ T W ((tstR (f ε)).bind fun b ε1 => if b = true then tstR (g ε1) else .ok false ε1) P := by
  unfold tstR at r ⊢
  cases q : f ε with
  | st => rw [q] at r; exact r
  | ex c d ε1 => rw [q] at r; exact r
  | ok v ε1 =>
    rw [q] at r
    simp only [R.bind] at r ⊢
    cases q2 : rs ε1 v with
    | none => rw [q2] at r; exact r
    | some d =>
      rw [q2] at r
      simp only [ofO] at r ⊢
      by_cases h : truOk d = true
      · rw [if_pos h] at r ⊢
        simp only [R.bind]
        by_cases ht : truD d = true
        · rw [if_pos ht] at r ⊢; exact r
        · rw [if_neg ht] at r ⊢
          simp only [q2, h, if_true] at r
          rw [Bool.not_eq_true] at ht
          rw [ht] at r
          exact r
      · rw [if_neg h] at r ⊢; exact r
theorem tst_or {f g : Sg → R EV} {ε : Sg} {σ : L2.St} {T : List Ent} {P : Bool → Sg → Prop} (r : Rd cl σ T W (tstR ((f ε).bind fun x ε1 => ofO (rs ε1 x) fun d => if truOk d = true then (if truD d = true then .ok x ε1 else g ε1) else .st)) P) :
    Rd cl σ T W ((tstR (f ε)).bind fun b ε1 => if b = true then .ok true ε1 else tstR (g ε1)) P := by
  unfold tstR at r ⊢
  cases q : f ε with
  | st => rw [q] at r; exact r
  | ex c d ε1 => rw [q] at r; exact r
  | ok v ε1 =>
    rw [q] at r
    simp only [R.bind] at r ⊢
    cases q2 : rs ε1 v with
    | none => rw [q2] at r; exact r
    | some d =>
      rw [q2] at r
      simp only [ofO] at r ⊢
      by_cases h : truOk d = true
      · rw [if_pos h] at r ⊢
        simp only [R.bind]
        by_cases ht : truD d = true
        · rw [if_pos ht] at r ⊢
          simp only [q2, h, if_true] at r
          rw [ht] at r
          exact r
        · rw [if_neg ht] at r ⊢; exact r
      · rw [if_neg h] at r ⊢; exact r
theorem w_and (ha : PT X a (tT cl W fun ε => tstR (f ε))) (hb : PW X (.BoolOp .And (b :: rest) pos) (tT cl W fun ε => tstR (g ε))) : PW X (.BoolOp .And (a :: b :: rest) pos) (tT cl W fun ε => tstR ((f ε).bind fun x ε1 => ofO (rs ε1 x) fun d => if truOk d = true then (if truD d = true then g ε1 else .ok x ε1) else .st)) :=
  PW.mono (pw_and ha hb) fun σ H Q ⟨ε, T, s, r⟩ => ⟨ε, T, s, (tst_and r).bind.imp fun k ε1 r H1 s1 => by
    cases k with
    | true => exact ⟨ε1, T, s1, r⟩
    | false => exact r _ s1⟩
theorem w_or (ha : PT X a (tT cl W fun ε => tstR (f ε))) (hb : PW X (.BoolOp .Or (b :: rest) pos) (tT cl W fun ε => tstR (g ε))) : PW X (.BoolOp .Or (a :: b :: rest) pos) (tT cl W fun ε => tstR ((f ε).bind fun x ε1 => ofO (rs ε1 x) fun d => if truOk d = true then (if truD d = true then .ok x ε1 else g ε1) else .st)) :=
  PW.mono (pw_or ha hb) fun σ H Q ⟨ε, T, s, r⟩ => ⟨ε, T, s, (tst_or r).bind.imp fun k ε1 r H1 s1 => by
    cases k with
    | true => exact r _ s1
    | false => exact ⟨ε1, T, s1, r⟩⟩
theorem w_and1 (ha : PT X a (tT cl W fun ε => tstR (f ε))) : PW X (.BoolOp .And [a] pos) (tT cl W fun ε => tstR (f ε)) := pw_and1 ha
theorem w_or1 (ha : PT X a (tT cl W fun ε => tstR (f ε))) : PW X (.BoolOp .Or [a] pos) (tT cl W fun ε => tstR (f ε)) := pw_or1 ha
end
theorem e_ife {t : Sg → R Bool} (hc : PT X c (tT cl W t)) (ha : PE X a (tE cl W f)) (hb : PE X b (tE cl W g)) : PE X (.IfExp c a b pos) (tE cl W fun ε => (t ε).bind fun k ε1 => if k = true then f ε1 else g ε1) :=
  PE.mono (pe_ifExp hc ha hb) fun σ H Q ⟨ε, T, s, r⟩ => ⟨ε, T, s, r.bind.imp fun k ε1 r H1 s1 => by
    cases k with
    | true => exact ⟨ε1, T, s1, r⟩
    | false => exact ⟨ε1, T, s1, r⟩⟩
/-! ### displays -/
theorem PostD {σ : L2.St} {T : List Ent} {Q : VK} {u : EV} {ε : Sg} {cl : Cl} {W : WX} (r : Rd cl σ T W (.ok u ε) (PostE σ T Q)) : PostE σ T Q u ε := r
theorem e_tup {es : List Expr} {k : Nat} {F : Sg → R (List D)} (ha : PA X es (tL cl W 0 F)) : PE X (.Tuple es k pos) (tE cl W fun ε => (F ε).bind fun ds ε1 => if ds.length ≤ sizeLine then .ok (.dat 0 (.tuple ds)) ε1 else .st) :=
  PE.mono (pe_tup ha) fun σ H Q ⟨ε, T, s, r⟩ => ⟨ε, T, s, r.bind.imp fun ds ε1 r H1 vs hl s1 => by
    obtain ⟨hz, r⟩ := r.ite
    exact ⟨by rw [hl]; exact hz, fun p hp => PostD r _ _ (s1.newT hl hp) trivial⟩⟩
theorem e_lst {es : List Expr} {F : Sg → R (List D)} (ha : PA X es (tL cl W n F)) : PE X (.List es pos) (tE cl W fun ε => (F ε).bind fun ds ε1 => if ds.length ≤ sizeLine then .ok (.dat (n + 1) (.list ds)) ε1 else .st) :=
  PE.mono (pe_lst ha) fun σ H Q ⟨ε, T, s, r⟩ => ⟨ε, T, s, r.bind.imp fun ds ε1 r H1 vs hl s1 => by
    obtain ⟨hz, r⟩ := r.ite
    exact ⟨by rw [hl]; exact hz, fun p hp => PostD r _ _ (s1.newL hl hp) trivial⟩⟩
theorem e_dnil : PE X (.Dict [] [] pos) (tE cl W fun ε => .ok (.dat 1 (.dict [])) ε) :=
  PE.mono pe_dnewK fun σ H Q ⟨ε, T, s, r⟩ p hp => PostD r _ _ (s.newD hp) trivial
theorem notStar {e : Expr} {es : List Expr} {env : Env} (h : ∀ v p, e ≠ .Starred v p) : starEach (e :: es) env = (false, eval e env) :: starEach es env := by
  cases e <;> first | rfl | exact absurd rfl (h _ _)
theorem l_nil {n : Nat} : PA X [] (tL cl W n fun ε => .ok [] ε) := PA.mono pa_nil fun σ H Q ⟨ε, T, s, r⟩ => r H [] rfl s
theorem l_cons {es : List Expr} {F : Sg → R (List D)} (hs : ∀ v p, a ≠ .Starred v p) (ha : PE X a (tE cl W f)) (hr : PA X es (tL cl W n F)) : PA X (a :: es) (tL cl W n fun ε => (f ε).bind fun x ε1 => ofO (esc ε1 x) fun (m, d, ε2) => if n ≤ m then (F ε2).bind fun ds ε3 => .ok (d :: ds) ε3 else .st) :=
  PA.mono (pa_cons ha hr (notStar hs)) fun σ H Q h => tE.lpp h
theorem a_nil : PA X [] (tA cl W fun ε => .ok [] ε) := PA.mono pa_nil fun σ H Q ⟨ε, T, s, r⟩ => r H [] s trivial
theorem a_cons {es : List Expr} {pm : PM} {F : Sg → R (List EV)} (hs : ∀ v p, a ≠ .Starred v p) (ha : PE X a (tE cl W f)) (hr : PA X es (tA cl W F)) : PA X (a :: es) (tA cl W fun ε => (f ε).bind fun x ε1 => (passArg pm x ε1).bind fun y ε2 => (F ε2).bind fun ys ε3 => .ok (y :: ys) ε3) :=
  PA.mono (pa_cons ha hr (notStar hs)) fun σ H Q h => tE.app h
end
end Kr

set_option Elab.async false
set_option linter.all false
set_option maxRecDepth 100000
set_option maxHeartbeats 1000000
namespace Kr
open PySem PySem.Spec PyProof.Rows L2
section
variable {X : Cx} {cl : Cl} {W : WX} {σ : L2.St} {ε : Sg} {T M : List Ent} {H H' : Hp} {x y : V} {n m i : Nat} {d e : D} {v u : EV} {Q : VK} {a b c : Expr} {pos : Pos} {f g h : Sg → R EV} {F : Addr → Prop}
/-! ### subscripts -/
theorem FzAll.at : ∀ {vs : List V} {ds : List D}, FzAll F H vs ds → ∀ {j : Nat} {e : D}, ds[j]? = some e → ∃ z, vs[j]? = some z ∧ Fz F H z e
  | _, _, .nil, j, e, h => by simp at h
  | _, _, .cons a r, 0, e, h => by cases h; exact ⟨_, rfl, a⟩
  | _, _, .cons a r, j + 1, e, h => r.at (j := j) (by simpa using h)
theorem atI_map {vs : List V} {ds : List D} {k : Int} (hl : vs.length = ds.length) (h : atI ds k = some e) : ∃ j : Nat, ds[j]? = some e ∧ ∀ z, vs[j]? = some z → atI vs k = some z := by
  unfold atI at h ⊢
  rw [hl]
  cases q : ixN ds.length k with
  | none => rw [q] at h; cases h
  | some j => rw [q] at h; exact ⟨j, h, fun z hz => hz⟩
theorem ents_at : ∀ {vs : List V} {ds : List D} {j : Nat} {z : V} {e : D}, vs[j]? = some z → ds[j]? = some e → (z, n, e) ∈ entsOf n vs ds
  | [], _, _, _, _, h, _ => by simp at h
  | _ :: _, [], _, _, _, _, h => by simp at h
  | x :: vs, d :: ds, 0, z, e, h1, h2 => by cases h1; cases h2; exact List.mem_cons_self
  | x :: vs, d :: ds, j + 1, z, e, h1, h2 => List.mem_cons_of_mem _ (ents_at (by simpa using h1) (by simpa using h2))
theorem State.pick {E : Ent} (s : State σ ε (M ++ T) H) (h : E ∈ M) : State σ ε (E :: T) H := by
  obtain ⟨l1, l2, rfl⟩ := List.append_of_mem h
  have s1 : State σ ε (E :: ((l1 ++ l2) ++ T)) H := s.permT (by simp only [List.append_assoc, List.cons_append]; exact List.perm_middle)
  exact s1.drop2 (M := l1 ++ l2)
theorem scal_pure {z : V} (h : Fz F H z e) (hs : scalD e = true) : (∀ F, Fz F H z e) ∧ isC e = false := by
  cases e <;> first | (cases hs; done) | skip
  · rw [h.none_]; exact ⟨fun _ => .non, rfl⟩
  · rw [h.bool_]; exact ⟨fun _ => .bl _, rfl⟩
  · rw [h.int_]; exact ⟨fun _ => .int _, rfl⟩
  · rw [h.str_]; exact ⟨fun _ => .str _, rfl⟩
theorem ix_ok {K : PySem.W.Frag} (hh : Nx2 cl W (fun v w ε2 => ofO (rs ε2 w) fun k => match k with
    | .int k => ofO (rs ε2 v) fun d => ofO (getI d k) fun e => if scalD e = true then .ok (.dat 0 e) ε2 else ofO (bor ε2 v) fun _ => .ok (.dat 0 e) ε2
    | _ => .st) σ Q x y H) : rIx K x y H Q := by
  obtain ⟨ε, T, v, w, s, lx, ly, r⟩ := hh
  obtain ⟨k, hk, r⟩ := r.ofO
  cases k <;> first | exact r.elim | skip
  rename_i k
  have ey := s.int_ ly hk
  obtain ⟨d, hd, r⟩ := r.ofO
  obtain ⟨e, he, r⟩ := r.ofO
  have sx : State σ ε (vE x v ++ T) H := s.dropN
  obtain ⟨F, fz⟩ := sx.fz lx hd
  -- what is handed on
  have fin : ∀ {vs : List V} {ds : List D} {z : V} {j : Nat}, FzAll F H vs ds → vs[j]? = some z → ds[j]? = some e → (∀ e', bor ε v = some e' → e' = d) → (bor ε v = some d → State σ ε (entsOf 0 vs ds ++ T) H) → Q z H := by
    intro vs ds z j al hz hj hb hs
    by_cases hsc : scalD e = true
    · rw [if_pos hsc] at r
      obtain ⟨z', hz', fe⟩ := al.at hj
      rw [hz] at hz'
      cases hz'
      obtain ⟨p, pc⟩ := scal_pure fe hsc
      exact PostD r _ _ (sx.dropN.pure (n := 0) p pc) trivial
    · rw [if_neg hsc] at r
      obtain ⟨e', he', r⟩ := r.ofO
      rw [hb _ he'] at he'
      exact (show PostE σ T Q (.dat 0 e) ε from r) _ _ ((hs he').pick (ents_at hz hj)) trivial
  have hb : ∀ e', bor ε v = some e' → e' = d := fun e' he' => by
    have := bor_rs he'
    rw [hd] at this
    cases this
    rfl
  cases d <;> first | (cases he; done) | skip
  · rename_i ds
    obtain ⟨p, vs, rfl, rd, al⟩ := fz.list
    obtain ⟨j, hj, hv⟩ := atI_map al.length he
    obtain ⟨z, hz, fe⟩ := al.at hj
    refine .inl ⟨p, vs, k, z, rfl, ey, .inl rd, hv z hz, fin al hz hj hb fun hbb => ?_⟩
    obtain ⟨p', vs', e1, r', l', s'⟩ := sx.share lx hbb
    cases e1
    have : vs' = vs := by rcases rd with q | ⟨_, q⟩ <;> rcases r' with q' | ⟨_, q'⟩ <;> (rw [q] at q'; cases q'; try rfl)
    subst this
    exact s'
  · rename_i ds
    obtain ⟨p, vs, rfl, rd, al⟩ := fz.tuple
    obtain ⟨j, hj, hv⟩ := atI_map al.length he
    obtain ⟨z, hz, fe⟩ := al.at hj
    refine .inr (.inl ⟨p, vs, k, z, rfl, ey, .inl (.inl rd), hv z hz, fin al hz hj hb fun hbb => ?_⟩)
    obtain ⟨p', vs', e1, r', l', s'⟩ := sx.shareT lx (bor_rs hbb)
    cases e1
    rw [rd] at r'
    cases r'
    exact s'
theorem e_ix (hs : PlainIx b) (ha : PE X a (tE cl W f)) (hb : PE X b (tE cl W g)) : PE X (.Subscript a b pos) (tE cl W fun ε => (f ε).bind fun x ε1 => (g ε1).bind fun y ε2 => ofO (rs ε2 y) fun k => match k with
    | .int k => ofO (rs ε2 x) fun d => ofO (getI d k) fun e => if scalD e = true then .ok (.dat 0 e) ε2 else ofO (bor ε2 x) fun _ => .ok (.dat 0 e) ε2
    | _ => .st) :=
  PE.mono (pe_ix ix_seq ha hb hs) fun σ H Q h => h.b1.q fun x H1 h => h.b2.q fun y H2 h => ix_ok h
/-! ### slices -/
theorem cut_ents {vs : List V} {ds : List D} (hl : vs.length = ds.length) (lo hi : Option Int) : ∃ A B, entsOf n vs ds = A ++ (entsOf n (cutV vs lo hi) (cutD ds lo hi) ++ B) := by
  have take_drop : ∀ (p q : Nat), entsOf n ((vs.drop p).take q) ((ds.drop p).take q) = ((entsOf n vs ds).drop p).take q := by
    intro p q
    unfold entsOf
    rw [← List.map_drop, ← List.map_take, List.zip_eq_zipWith, List.zip_eq_zipWith, List.drop_zipWith, List.take_zipWith]
  refine ⟨(entsOf n vs ds).take (HT.sIx ds.length 0 lo), ((entsOf n vs ds).drop (HT.sIx ds.length 0 lo)).drop (HT.sIx ds.length ds.length hi - HT.sIx ds.length 0 lo), ?_⟩
  unfold cutV cutD
  rw [hl, take_drop, List.take_append_drop, List.take_append_drop]
theorem cut_len {vs : List V} {ds : List D} (hl : vs.length = ds.length) (lo hi : Option Int) : (cutV vs lo hi).length = (cutD ds lo hi).length := by
  unfold cutV cutD
  simp [hl]
theorem State.cut {vs : List V} {ds : List D} (hl : vs.length = ds.length) (lo hi : Option Int) (s : State σ ε (entsOf n vs ds ++ T) H) : State σ ε (entsOf n (cutV vs lo hi) (cutD ds lo hi) ++ T) H := by
  obtain ⟨A, B, e⟩ := cut_ents (n := n) hl lo hi
  rw [e, List.append_assoc, List.append_assoc] at s
  have s2 := State.dropN (M := A) s
  exact State.dropN (M := B) (s2.permT (by rw [← List.append_assoc, ← List.append_assoc]; exact List.Perm.append_right _ List.perm_append_comm))
theorem p_no : PO X none (tP cl W fun ε => .ok none ε) := ⟨fun pins s σ H Q I ⟨ε, T, st, r⟩ => po_none.run pins s σ H Q I (r H st)⟩
theorem p_ex (ha : PE X a (tE cl W f)) : PO X (some a) (tP cl W fun ε => (f ε).bind fun x ε1 => ofO (rs ε1 x) fun d => match d with
    | .int i => .ok (some i) ε1
    | _ => .st) := ⟨fun pins s σ H Q I ⟨ε, T, st, r⟩ => (po_some ha).run pins s σ H Q I ⟨ε, T, st, r.bind.imp fun v ε1 r H1 x s1 l => by
      obtain ⟨d, hd, r⟩ := r.ofO
      cases d <;> first | exact r.elim | skip
      exact ⟨_, s1.int_ l hd, r _ s1.dropN⟩⟩⟩
theorem tP.q {t : Sg → R (Option Int)} {Q Q' : Option Int → Hp → Prop} (h : tP cl W t σ H Q) (k : ∀ x H, Q x H → Q' x H) : tP cl W t σ H Q' := by
  obtain ⟨ε, T, s, r⟩ := h
  exact ⟨ε, T, s, r.imp fun v ε1 p H1 s1 => k _ _ (p H1 s1)⟩
theorem e_sl {lo hi : Option Expr} {p2 : Pos} {tl th : Sg → R (Option Int)} (ha : PE X a (tE cl W f)) (hl : PO X lo (tP cl W tl)) (hh : PO X hi (tP cl W th)) : PE X (.Subscript a (.Slice lo hi none p2) pos)
    (tE cl W fun ε => (f ε).bind fun x ε1 => (tl ε1).bind fun l ε2 => (th ε2).bind fun h ε3 => ofO (bor ε3 x) fun d => ofO (slD d l h) fun r => .ok (.dat r.1 r.2) ε3) :=
  PE.mono (pe_slice (sl_list.or sl_tupA) ha hl hh) fun σ H Q h => h.b1.q fun x H1 ⟨ε, T, v, s, lx, r⟩ => ⟨ε, vE x v ++ T, s, (Rd.more r.bind).imp fun l ε1 r H2 s2 => ⟨ε1, vE x v ++ T, s2, (Rd.more r.bind).imp fun hi ε2 r H3 s3 => by
    obtain ⟨d, hd, r⟩ := r.ofO
    obtain ⟨k, hk, r⟩ := r.ofO
    cases d <;> first | (cases hk; done) | skip
    · rename_i ds
      cases hk
      obtain ⟨p, vs, rfl, rd, hl, s4⟩ := s3.share lx hd
      refine .inl ⟨p, vs, rfl, .inl rd, fun q hq => PostD r _ _ (State.newL (n := 0) (s4.cut hl l hi) (cut_len hl l hi) hq) trivial⟩
    · rename_i ds
      cases hk
      obtain ⟨p, vs, rfl, rd, hl, s4⟩ := s3.shareT lx (bor_rs hd)
      refine .inr ⟨p, vs, rfl, .inl (.inl rd), fun hw => ?_, fun _ q hq => PostD r _ _ (State.newT (s4.cut hl l hi) (cut_len hl l hi) hq) trivial⟩
      have e : cutD ds l hi = ds := by
        unfold cutD
        rw [hl] at hw
        rw [hw.1, hw.2]
        simp
      refine PostD r _ _ (show State σ ε2 ((V.ref p, 0, .tuple (cutD ds l hi)) :: T) H3 from ?_) trivial
      rw [e]
      exact s3.copyF rfl lx (bor_rs hd)⟩⟩
theorem e_rev {k : Nat} {p1 p2 p3 : Pos} (ha : PE X a (tE cl W f)) : PE X (.Subscript a (.Slice none none (some (.UnaryOp .USub (.Constant (.int 1) k p1) p2)) p3) pos) (tE cl W fun ε => (f ε).bind fun x ε1 => ofO (bor ε1 x) fun d => match d with
    | .list ds => .ok (.dat 1 (.list ds.reverse)) ε1
    | _ => .st) :=
  PE.mono (pe_revL ha) fun σ H Q h => h.b1.q fun x H1 ⟨ε, T, v, s, lx, r⟩ => by
    obtain ⟨d, hd, r⟩ := r.ofO
    cases d <;> first | exact r.elim | skip
    rename_i ds
    obtain ⟨p, vs, rfl, rd, hl, s4⟩ := s.share lx hd
    refine ⟨p, vs, rfl, .inl rd, fun q hq => PostD r _ _ (State.newL (n := 0) (ds := ds.reverse) (vs := vs.reverse) (s4.permT ?_) (by simp [hl]) hq) trivial⟩
    refine List.Perm.append_right _ ?_
    have : entsOf 0 vs.reverse ds.reverse = (entsOf 0 vs ds).reverse := by
      unfold entsOf
      rw [List.zip_eq_zipWith, List.zip_eq_zipWith, ← List.reverse_zipWith hl, List.map_reverse]
    rw [this]
    exact (List.reverse_perm _).symm
end
end Kr

set_option Elab.async false
set_option linter.all false
set_option maxRecDepth 100000
set_option maxHeartbeats 1000000
namespace Kr
open PySem PySem.Spec PyProof.Rows L2
def notSt : Expr → Bool
  | .Starred _ _ => false
  | _ => true
theorem notSt_ok {e : Expr} (h : notSt e = true) : ∀ v p, e ≠ .Starred v p := fun v p q => by subst q; cases h
theorem star_cons {e : Expr} {es : List Expr} {env : Env} (h : notSt e = true) : starEach (e :: es) env = (false, eval e env) :: starEach es env := notStar (notSt_ok h)
theorem noStars {pos : Pos} {env : Env} : ∀ {es : List Expr}, es.all notSt = true → (backTo pos (starEach es env)).any (·.1) = false
  | [], _ => rfl
  | e :: es, h => by
    simp only [List.all_cons, Bool.and_eq_true] at h
    rw [star_cons h.1]
    have := noStars (pos := pos) (env := env) h.2
    simp only [backTo, List.map_cons, List.any_cons, Bool.false_or] at this ⊢
    exact this
theorem noStars2 {pos : Pos} {env : Env} : ∀ {es : List Expr}, es.all notSt = true → (backTo pos (starEach es env)).all (fun x => !x.1) = true
  | [], _ => rfl
  | e :: es, h => by
    simp only [List.all_cons, Bool.and_eq_true] at h
    rw [star_cons h.1]
    have := noStars2 (pos := pos) (env := env) h.2
    simp only [backTo, List.map_cons, List.all_cons, Bool.not_false, Bool.true_and] at this ⊢
    exact this
section
variable {X : Cx} {cl : Cl} {W : WX} {σ : L2.St} {ε : Sg} {T M : List Ent} {H H' : Hp} {x y : V} {n m i : Nat} {d e : D} {v u : EV} {Q : VK} {a b c : Expr} {pos p : Pos} {f g h : Sg → R EV} {F : Addr → Prop}
/-! ### calls -/
theorem e_call {TT : Tb} {B : List Str} {k : Nat} {ck : Ck} (G : Good TT cl B k W ck X) {nm : String} {fd : Fd} (hT : TT nm = some fd) (gl : Gl X (nm : Str)) (hdb : ((nm : Str) == ("__debug__" : Str)) = false) {e1 : Expr} {es : List Expr} {A : Sg → R (List EV)} (ha : PA X (e1 :: es) (tA cl W A)) (hs : (e1 :: es).all notSt = true) :
    PE X (.Call (.Name (nm : Str) p) (e1 :: es) [] pos) (tE cl W fun ε => (A ε).bind fun xs ε1 => if ioOk ε1 xs fd.pm = true then ofO (argD ε1 xs) fun ds => ofO (callK TT k nm ds) fun r => match r with
      | .ret n d io => ofO (putIo xs fd.pm io ε1) fun ε2 => .ok (.dat n d) ε2
      | .ex c d io => ofO (putIo xs fd.pm io ε1) fun ε2 => .ex c d ε2 else .st) := by
  obtain ⟨fa, fo, ps, hm, hk, hb, FG, _⟩ := G.fn nm fd hT
  simp only [List.all_cons, Bool.and_eq_true] at hs
  exact PE.mono (pe_callG FG G.rm G.gd gl hm hk hb (fun σ => passAt G.tk σ) ha hdb (star_cons hs.1) (noStars hs.2)) fun σ H Q ⟨ε, T, s, r⟩ => ⟨ε, T, s, r.bind.imp fun us ε1 r H1 vs s1 l => call_ok s1 l r⟩
theorem e_call0 {TT : Tb} {B : List Str} {k : Nat} {ck : Ck} (G : Good TT cl B k W ck X) {nm : String} {fd : Fd} (hT : TT nm = some fd) (gl : Gl X (nm : Str)) (hdb : ((nm : Str) == ("__debug__" : Str)) = false) :
    PE X (.Call (.Name (nm : Str) p) [] [] pos) (tE cl W fun ε => (R.ok [] ε).bind fun xs ε1 => if ioOk ε1 xs fd.pm = true then ofO (argD ε1 xs) fun ds => ofO (callK TT k nm ds) fun r => match r with
      | .ret n d io => ofO (putIo xs fd.pm io ε1) fun ε2 => .ok (.dat n d) ε2
      | .ex c d io => ofO (putIo xs fd.pm io ε1) fun ε2 => .ex c d ε2 else .st) := by
  obtain ⟨fa, fo, ps, hm, hk, hb, FG, _⟩ := G.fn nm fd hT
  exact PE.mono (pe_callG0 FG G.rm G.gd gl hm hk hb (fun σ => passAt G.tk σ) hdb) fun σ H Q ⟨ε, T, s, r⟩ => call_ok (us := []) (vs := []) s trivial r
/-! ### built-ins of one argument -/
theorem a_one (ha : PE X a (tE cl W f)) (hs : notSt a = true) : PA X [a] (tCons (tE cl W f) tNil) := pa_cons ha pa_nil (star_cons hs)
theorem e_b1 {o : B1} {nm : Str} {cv : Value} (hc : X.calm = true) (hg : X.A.guards = some []) (hu : X.A.units + 64 < cLine) (hsy : ∃ o, X.base.get? sysModules = some o) (e : n1 o = some (nm, cv)) (gl : Gl X nm) (hm : X.mg nm = none) (ha : PE X a (tE cl W f)) (hs : notSt a = true) :
    PE X (.Call (.Name nm p) [a] [] pos) (tE cl W fun ε => (f ε).bind fun x ε1 => ofO (bor ε1 x) fun d => ofO (b1v o d) fun r => .ok (.dat r.1 r.2) ε1) := by
  obtain ⟨hb, hn, hdb⟩ := boot_1 e
  have cr := cr_1 hc hg hu hsy e
  have fin : ∀ σ H Q, tE cl W (fun ε => (f ε).bind fun x ε1 => ofO (bor ε1 x) fun d => ofO (b1v o d) fun r => .ok (.dat r.1 r.2) ε1) σ H Q → tCB (r1 X.K o) (tCons (tE cl W f) tNil) σ H Q := fun σ H Q h => h.b1.q fun x H1 ⟨ε, T, v, s, l, r⟩ => by
    obtain ⟨d, hd, r⟩ := r.ofO
    obtain ⟨k, hk, r⟩ := r.ofO
    exact b1_fact e s l hd hk (PostD r)
  have hv : (∃ id, cv = .builtin id) ∨ ∃ T, cv = .type T := by
    cases o <;> cases e <;> first | exact .inl ⟨_, rfl⟩ | exact .inr ⟨_, rfl⟩
  rcases hv with ⟨id, rfl⟩ | ⟨T, rfl⟩
  · exact PE.mono (pe_callB cr gl hm hb (a_one ha hs) hn hdb (star_cons hs) rfl) fin
  · exact PE.mono (pe_callTy cr gl hm hb (a_one ha hs) hn hdb (star_cons hs) rfl) fin
/-- x.bit_length() -/
theorem e_bits {apos : Pos} (ha : PE X a (tE cl W f)) (hb : attributeBase a "bit_length" X.env (eval a X.env) = eval a X.env) (hl : (apos.endLine == pos.line) = true) : PE X (.Call (.Attribute a "bit_length" apos) [] [] pos) (tE cl W fun ε => (f ε).bind fun x ε1 => ofO (bor ε1 x) fun d => ofO (b1v .bitlen d) fun r => .ok (.dat r.1 r.2) ε1) :=
  PE.mono (pe_bits ha hb hl) fun σ H Q h => h.b1.q fun x H1 ⟨ε, T, v, s, l, r⟩ => by
    obtain ⟨d, hd, r⟩ := r.ofO
    obtain ⟨k, hk, r⟩ := r.ofO
    cases d <;> first | (cases hk; done) | skip
    cases hk
    exact ⟨_, s.int_ l (bor_rs hd), PostD r _ _ (s.dropN.pint _) trivial⟩
/-! ### isinstance -/
def tyN : D → String
  | .none => "NoneType"
  | .bool _ => "bool"
  | .int _ => "int"
  | .str _ => "str"
  | .list _ => "list"
  | .tuple _ => "tuple"
  | .dict _ => "dict"
theorem Fz.ty {K : PySem.W.Frag} (h : Fz F H x d) : TyX K H x (.type (tyN d)) := by
  cases d with
  | none => rw [h.none_]; exact .base .non
  | bool b => rw [h.bool_]; exact .base (.bl _)
  | int i => rw [h.int_]; exact .base (.int _)
  | str z => rw [h.str_]; exact .base (.str _)
  | list ds =>
    obtain ⟨a, vs, rfl, r, al⟩ := h.list
    rcases r with r | ⟨o, r⟩
    · exact .base (.lst r)
    · exact .base (.frz r)
  | tuple ds =>
    obtain ⟨a, vs, rfl, r, al⟩ := h.tuple
    exact .base (.tup r)
  | dict ps =>
    obtain ⟨a, rfl, r | r⟩ := h.dict
    · obtain ⟨kvs, r⟩ := r; exact .base (.dK r)
    · obtain ⟨kvs, r⟩ := r; exact .base (.dT r)
/-- the class that a test names -/
def nI : B1 → Option (Str × String)
  | .isInt => some ("int", "int")
  | .isBool => some ("bool", "bool")
  | .isList => some ("list", "list")
  | .isTuple => some ("tuple", "tuple")
  | .isStr => some ("str", "str")
  | .isDict => some ("dict", "dict")
  | _ => none
theorem boot_I {o : B1} {nm : Str} {t : String} (e : nI o = some (nm, t)) : bootBuiltins nm = some (.type t) ∧ nm ≠ "__name__" ∧ (nm == ("__debug__" : Str)) = false := by
  cases o <;> cases e <;> decide +kernel
theorem isI_ok {o : B1} {nm : Str} {t : String} {r : Nat × D} (e : nI o = some (nm, t)) (h : b1v o d = some r) : ∃ k, r = (0, .bool k) ∧ kitB (tyN d) t = some k := by
  have all : ∀ (o : B1) (d : D) (nm : Str) (t : String), nI o = some (nm, t) → ∃ k, b1v o d = some (0, .bool k) ∧ kitB (tyN d) t = some k := by
    intro o d nm t e
    cases o <;> cases e <;> cases d <;> exact ⟨_, rfl, by kernel_rfl⟩
  obtain ⟨k, h1, h2⟩ := all o d nm t e
  rw [h1] at h
  cases h
  exact ⟨k, rfl, h2⟩
theorem e_isi {o : B1} {nm : Str} {t : String} {p2 : Pos} (e : nI o = some (nm, t)) (gl : Gl X "isinstance") (hm : X.mg "isinstance" = none) (gl2 : Gl X nm) (hm2 : X.mg nm = none) (ha : PE X a (tE cl W f)) (hs : notSt a = true) :
    PE X (.Call (.Name "isinstance" p) [a, .Name nm p2] [] pos) (tE cl W fun ε => (f ε).bind fun x ε1 => ofO (bor ε1 x) fun d => ofO (b1v o d) fun r => .ok (.dat r.1 r.2) ε1) := by
  obtain ⟨hb, hn, hdb⟩ := boot_I e
  have pc : PE X (.Name nm p2) (tC (.ty t)) := pe_bltn gl2 hm2 hb rfl hn hdb
  refine PE.mono (pe_callB call_isi gl hm boot_isinstance (pa_cons ha (pa_cons pc pa_nil) (star_cons hs)) (by decide) (by decide) (star_cons hs) rfl) fun σ H Q h => h.b1.q fun x H1 ⟨ε, T, v, s, l, r⟩ => ?_
  obtain ⟨d, hd, r⟩ := r.ofO
  obtain ⟨k, hk, r⟩ := r.ofO
  obtain ⟨b, rfl, hb⟩ := isI_ok e hk
  obtain ⟨F, fz⟩ := s.fz l (bor_rs hd)
  exact ⟨x, .ty t, _, _, b, rfl, .ty t, fz.ty, kit_ty hb, PostD r _ _ (s.dropN.pbool _) trivial⟩
/-! ### list(range(..)) -/
theorem e_lrange {p2 pos2 : Pos} (hc : X.calm = true) (gl : Gl X "list") (hm : X.mg "list" = none) (gl2 : Gl X "range") (hm2 : X.mg "range" = none) (ha : PE X a (tE cl W f)) (hs : notSt a = true) :
    PE X (.Call (.Name "list" p) [.Call (.Name "range" p2) [a] [] pos2] [] pos) (tE cl W fun ε => (f ε).bind fun x ε1 => ofO (bor ε1 x) fun d => ofO (b1v .lrange d) fun r => .ok (.dat r.1 r.2) ε1) :=
  PE.mono (pe_listRg hc gl hm (prg_1 gl2 hm2 ha (star_cons hs))) fun σ H Q h => h.b1.q fun x H1 ⟨ε, T, v, s, l, r⟩ => by
    obtain ⟨d, hd, r⟩ := r.ofO
    obtain ⟨k, hk, r⟩ := r.ofO
    cases d <;> first | (cases hk; done) | skip
    rename_i j
    simp only [b1v] at hk
    split at hk
    · rename_i hj
      cases hk
      have hj := of_decide_eq_true hj
      refine ⟨j, s.int_ l (bor_rs hd), ⟨by omega, by omega, by omega, by omega, by omega⟩, fun q hq => ?_⟩
      have e : rgV 0 j = ((List.range j.toNat).map fun (k : Nat) => ((k : Nat) : Int)).map V.int := by
        unfold rgV
        rw [List.map_map]
        have : (j - 0).toNat = j.toNat := by simp
        rw [this]
        refine List.map_congr_left fun k _ => ?_
        show V.int (0 + (k : Nat)) = V.int ((k : Nat) : Int)
        rw [Int.zero_add]
      have e2 : rangeD 0 j.toNat = ((List.range j.toNat).map fun (k : Nat) => ((k : Nat) : Int)).map PyData.int := by
        unfold rangeD
        rw [List.map_map]
        refine List.map_congr_left fun k _ => ?_
        show PyData.int (0 + (k : Nat)) = PyData.int ((k : Nat) : Int)
        rw [Int.zero_add]
      rw [e]
      refine PostD r _ _ (show State σ ε ((V.ref q, 1, .list (rangeD 0 j.toNat)) :: T) _ from ?_) trivial
      rw [e2]
      exact State.newL (n := 0) (State.ints _ s.dropN) (by simp) hq
    · cases hk
end
end Kr

set_option Elab.async false
set_option linter.all false
set_option maxRecDepth 100000
set_option maxHeartbeats 1000000
namespace Kr
open PySem PySem.Spec PyProof.Rows L2
section
variable {X : Cx} {cl : Cl} {W : WX} {σ : L2.St} {ε : Sg} {T M : List Ent} {H H' : Hp} {x y : V} {n m i : Nat} {d e : D} {v u : EV} {Q : VK} {a b c : Expr} {pos p : Pos} {f g h : Sg → R EV} {F : Addr → Prop}
/-! ### sets of ints -/
/-- len of a set of ints -/
def rLenSet (w : World) : List V → Hp → VK → Prop := fun vs H Q => ∃ (a : Addr) (S : Int → Bool) (n : Nat), vs = [V.ref a] ∧ H a = some (SetO w a S n) ∧ ((∃ l : List Int, l.Nodup ∧ (∀ k, S k = true ↔ k ∈ l) ∧ l.length = n) → Q (.int n) H)
theorem cr_lenSet : CallR X (.builtin "len") (rLenSet X.w) := by
  intro pins s σ H vs us Q I r h
  obtain ⟨a, S, n, rfl, ha, q⟩ := h
  have R0 := setO_get I ha
  obtain ⟨o, es, ep, t, ho, hex, hd, _, nd, mem, hsz, hf, hn, _⟩ := R0
  rw [Vals.ref1 r]
  have hq := q ⟨es.toList.map keyOf, nd, mem, by rw [List.length_map, Array.length_toList, hn]⟩
  refine call_len_set ho hex hd hf ?_ ⟨.int n, H, I.tok _, ⟨_, by rw [hn]⟩, hq⟩
  have : scanBound ≤ 2 ^ 60 := by decide +kernel
  omega
theorem scan64 {k : Nat} (h : k < 64) : k + 1 < scanBound := by
  have : 100 < scanBound := by decide +kernel
  omega
theorem e_set {r : List V → Hp → VK → Prop} {o : B1} {nm : Str} {id : String} {p2 pos2 : Pos} (hc : X.calm = true) (cr : CallR X (.builtin id) r) (hb : bootBuiltins nm = some (.builtin id)) (hn : nm ≠ "__name__") (hdb : (nm == ("__debug__" : Str)) = false)
    (gl : Gl X nm) (hm : X.mg nm = none) (gl2 : Gl X "set") (hm2 : X.mg "set" = none) (ha : PE X a (tE cl W f)) (hs : notSt a = true)
    (key : ∀ (ns : List Int) (k : Nat × D) (q c : Nat) (σ : L2.St) (ε : Sg) (T : List Ent) (H : Hp) (Q : VK), b1v o (.list (ns.map PyData.int)) = some k → ns.length < 64 → c ≤ ns.length → State σ ε T H → H q = none → PostE σ T Q (.dat k.1 k.2) ε → r [.ref q] (L2.upd H q (SetO X.w q (fun j => decide (j ∈ ns)) c)) Q)
    (hko : ∀ (d : D) (k : Nat × D), b1v o d = some k → ∃ ns : List Int, d = .list (ns.map PyData.int) ∧ ns.length < 64) :
    PE X (.Call (.Name nm p) [.Call (.Name "set" p2) [a] [] pos2] [] pos) (tE cl W fun ε => (f ε).bind fun x ε1 => ofO (bor ε1 x) fun d => ofO (b1v o d) fun r => .ok (.dat r.1 r.2) ε1) := by
  have ps : PE X (.Call (.Name "set" p2) [a] [] pos2) (tCB (rSetI X.K X.w) (tCons (tE cl W f) tNil)) := pe_callTy (cr_setI hc) gl2 hm2 PyProof.Rows.boot_set (a_one ha hs) (by decide) (by decide) (star_cons hs) rfl
  refine PE.mono (pe_callB cr gl hm hb (pa_cons ps pa_nil rfl) hn hdb rfl rfl) fun σ H Q h => h.b1.q fun x H1 ⟨ε, T, v, s, l, r⟩ => ?_
  obtain ⟨d, hd, r1⟩ := r.ofO
  obtain ⟨k, hk, r2⟩ := r1.ofO
  obtain ⟨ns, rfl, h64⟩ := hko d k hk
  obtain ⟨a, vs, rfl, rd, hl, s2⟩ := s.share l hd
  obtain ⟨F, fz⟩ := s.fz l (bor_rs hd)
  obtain ⟨a', vs', e1, rd', al⟩ := fz.list
  cases e1
  have hv : vs' = vs := by rcases rd with q | ⟨_, q⟩ <;> rcases rd' with q' | ⟨_, q'⟩ <;> (rw [q] at q'; cases q'; try rfl)
  subst hv
  have ev := fz_ints al
  subst ev
  exact ⟨a, ns, rfl, .inl rd, scan64 h64, fun q c hc' hq => key ns k q c σ ε T H1 Q hk h64 hc' s.dropN hq (PostD r2)⟩
theorem set_ints_of {o : B1} (ho : o = .sset ∨ o = .lset) {d : D} {k : Nat × D} (h : b1v o d = some k) : ∃ ns : List Int, d = .list (ns.map PyData.int) ∧ ns.length < 64 := by
  rcases ho with rfl | rfl <;> cases d <;> first | (cases h; done) | skip
  all_goals
    rename_i xs
    simp only [b1v] at h
    cases q : intsD xs with
    | none => rw [q] at h; cases h
    | some ns =>
      rw [q] at h
      simp only [Option.bind_some] at h
      split at h
      · rename_i hz
        exact ⟨ns, by rw [intsD_map q], hz⟩
      · cases h
theorem e_sset {p2 pos2 : Pos} (hc : X.calm = true) (gl : Gl X "sorted") (hm : X.mg "sorted" = none) (gl2 : Gl X "set") (hm2 : X.mg "set" = none) (ha : PE X a (tE cl W f)) (hs : notSt a = true) :
    PE X (.Call (.Name "sorted" p) [.Call (.Name "set" p2) [a] [] pos2] [] pos) (tE cl W fun ε => (f ε).bind fun x ε1 => ofO (bor ε1 x) fun d => ofO (b1v .sset d) fun r => .ok (.dat r.1 r.2) ε1) :=
  e_set hc (cr_sortedSet hc) boot_sorted (by decide) (by decide) gl hm gl2 hm2 ha hs (fun ns k q c σ ε T H Q hk h64 hc' s hq P => by
    simp only [b1v, intsD_of, Option.bind_some, if_pos h64, Option.some.injEq] at hk
    subst hk
    refine ⟨q, _, c, rfl, upd_same, by omega, fun ms p' hp hm _ hp' => ?_⟩
    have e : ms = usort ns := lt_unique hp (usort_sorted ns) fun k => by rw [hm k, usort_mem]; simp
    subst e
    exact P _ _ (State.newL (n := 0) (State.ints _ (s.newX hq)) (by simp) hp') trivial) (fun d k h => set_ints_of (.inl rfl) h)
theorem e_lset {p2 pos2 : Pos} (hc : X.calm = true) (gl : Gl X "len") (hm : X.mg "len" = none) (gl2 : Gl X "set") (hm2 : X.mg "set" = none) (ha : PE X a (tE cl W f)) (hs : notSt a = true) :
    PE X (.Call (.Name "len" p) [.Call (.Name "set" p2) [a] [] pos2] [] pos) (tE cl W fun ε => (f ε).bind fun x ε1 => ofO (bor ε1 x) fun d => ofO (b1v .lset d) fun r => .ok (.dat r.1 r.2) ε1) :=
  e_set hc cr_lenSet boot_len (by decide) (by decide) gl hm gl2 hm2 ha hs (fun ns k q c σ ε T H Q hk h64 hc' s hq P => by
    simp only [b1v, intsD_of, Option.bind_some, if_pos h64, Option.some.injEq] at hk
    subst hk
    refine ⟨q, _, c, rfl, upd_same, fun ⟨l, nd, mem, hl⟩ => ?_⟩
    have e : l.Perm (usort ns) := (List.perm_ext_iff_of_nodup nd ((usort_sorted ns).imp (fun h => Int.ne_of_lt h))).mpr fun k => by rw [usort_mem, ← mem k]; simp
    have : c = (usort ns).length := by rw [← hl, e.length_eq]
    subst this
    exact P _ _ ((s.newX hq).pint _) trivial) (fun d k h => set_ints_of (.inr rfl) h)
/-! ### two arguments -/
theorem a_two (ha : PE X a (tE cl W f)) (hb : PE X b (tE cl W g)) (hs : notSt a = true) (hs2 : notSt b = true) : PA X [a, b] (tCons (tE cl W f) (tCons (tE cl W g) tNil)) := pa_cons ha (pa_cons hb pa_nil (star_cons hs2)) (star_cons hs)
theorem e_max (hc : X.calm = true) (gl : Gl X "max") (hm : X.mg "max" = none) (ha : PE X a (tE cl W f)) (hb : PE X b (tE cl W g)) (hs : notSt a = true) (hs2 : notSt b = true) :
    PE X (.Call (.Name "max" p) [a, b] [] pos) (tE cl W fun ε => (f ε).bind fun x ε1 => (g ε1).bind fun y ε2 => ofO (rs ε2 x) fun d => ofO (rs ε2 y) fun e => ofO (b2v .max d e) fun r => .ok (.dat r.1 r.2) ε2) :=
  PE.mono (pe_callB (call_max2 hc) gl hm boot_max (a_two ha hb hs hs2) (by decide) (by decide) (star_cons hs) (by have := noStars (pos := pos) (env := X.env) (es := [b]) (by simp [hs2]); exact this)) fun σ H Q h => h.b1.q fun x H1 h => h.b2.q fun y H2 ⟨ε, T, v, w, s, lx, ly, r⟩ => by
    obtain ⟨d, hd, r⟩ := r.ofO
    obtain ⟨e, he, r⟩ := r.ofO
    obtain ⟨k, hk, r⟩ := r.ofO
    cases d <;> first | (cases hk; done) | skip
    cases e <;> first | (cases hk; done) | skip
    cases hk
    obtain ⟨rfl, rfl⟩ := s.int2 lx ly hd he
    exact ⟨_, _, rfl, PostD r _ _ (s.none2.pint _) trivial⟩
theorem e_min (hc : X.calm = true) (gl : Gl X "min") (hm : X.mg "min" = none) (ha : PE X a (tE cl W f)) (hb : PE X b (tE cl W g)) (hs : notSt a = true) (hs2 : notSt b = true) :
    PE X (.Call (.Name "min" p) [a, b] [] pos) (tE cl W fun ε => (f ε).bind fun x ε1 => (g ε1).bind fun y ε2 => ofO (rs ε2 x) fun d => ofO (rs ε2 y) fun e => ofO (b2v .min d e) fun r => .ok (.dat r.1 r.2) ε2) :=
  PE.mono (pe_callB (call_min2 hc) gl hm boot_min (a_two ha hb hs hs2) (by decide) (by decide) (star_cons hs) (by have := noStars (pos := pos) (env := X.env) (es := [b]) (by simp [hs2]); exact this)) fun σ H Q h => h.b1.q fun x H1 h => h.b2.q fun y H2 ⟨ε, T, v, w, s, lx, ly, r⟩ => by
    obtain ⟨d, hd, r⟩ := r.ofO
    obtain ⟨e, he, r⟩ := r.ofO
    obtain ⟨k, hk, r⟩ := r.ofO
    cases d <;> first | (cases hk; done) | skip
    cases e <;> first | (cases hk; done) | skip
    cases hk
    obtain ⟨rfl, rfl⟩ := s.int2 lx ly hd he
    exact ⟨_, _, rfl, PostD r _ _ (s.none2.pint _) trivial⟩
/-! ### methods of lists -/
theorem few1 {pos : Pos} (hs : notSt b = true) : ((backTo pos (starEach [b] X.env)).all (fun x => !x.1) && (backToKw pos (keywordEach [] X.env)).all (fun x => x.1.isSome)
      && decide ([b].length + ([] : List Keyword).length + (if ([] : List Keyword).isEmpty then 0 else 1) < 30)) = true := by
  rw [noStars2 (by simp [hs])]
  rfl
theorem findD_ok {x : D} : ∀ {ds : List D} {k j : Nat}, findD x ds k = some j → ∃ i z, j = k + i ∧ ds[i]? = some z ∧ PyData.eqv z x = true ∧ ∀ (m : Nat) (z' : D), m < i → ds[m]? = some z' → PyData.eqv z' x = false
  | [], _, _, h => by cases h
  | y :: r, k, j, h => by
    simp only [findD] at h
    split at h
    · rename_i hy
      cases h
      exact ⟨0, y, rfl, rfl, hy, fun m z' hm => by omega⟩
    · rename_i hy
      obtain ⟨i, z, e1, e2, e3, e4⟩ := findD_ok h
      refine ⟨i + 1, z, by omega, by simpa using e2, e3, fun m z' hm hz => ?_⟩
      cases m with
      | zero =>
        simp only [List.length_cons, Nat.zero_lt_succ, getElem?_pos, List.getElem_cons_zero, Option.some.injEq] at hz
        subst hz
        simpa using hy
      | succ m => exact e4 m z' (by omega) (by simpa using hz)
theorem e_index {apos : Pos} (hu : X.A.units + 65 < cLine) (ha : PE X a (tE cl W f)) (hb : PE X b (tE cl W g)) (hs2 : notSt b = true) (hbase : attributeBase a "index" X.env (eval a X.env) = eval a X.env) (hl : (apos.endLine == pos.line) = true) :
    PE X (.Call (.Attribute a "index" apos) [b] [] pos) (tE cl W fun ε => (f ε).bind fun x ε1 => ofO (rs ε1 x) fun d0 => match d0 with
      | .list _ => (g ε1).bind fun y ε2 => ofO (rs ε2 x) fun d => ofO (rs ε2 y) fun e => ofO (b2v .index d e) fun r => .ok (.dat r.1 r.2) ε2
      | _ => .st) :=
  PE.mono (pe_bm PySem.F.plainAttrs_list PySem.F.slot_list_index PySem.F.type_list_index (mt_indexD hu) ha (pa_cons hb pa_nil (star_cons hs2)) hbase (few1 hs2) hl (star_cons hs2) rfl) fun σ H Q h => h.b1.q fun x H1 ⟨ε, T, v, s, l, r⟩ => by
    obtain ⟨d0, hd0, r⟩ := r.ofO
    cases d0 <;> first | exact r.elim | skip
    obtain ⟨F, fz⟩ := s.fz l hd0
    obtain ⟨p, vs, rfl, rd, al⟩ := fz.list
    refine ⟨.inl ⟨rfl, vs, .inl rd⟩, ε, vE (.ref p) v ++ T, s, (Rd.more r.bind).imp fun w ε1 r H2 y s2 ly => ?_⟩
    obtain ⟨d, hd, r1⟩ := r.ofO
    obtain ⟨e, he, r2⟩ := r1.ofO
    obtain ⟨k, hk, r3⟩ := r2.ofO
    have : ∃ ds, d = .list ds := by cases d <;> first | (cases hk; done) | exact ⟨_, rfl⟩
    obtain ⟨ds, rfl⟩ := this
    simp only [b2v] at hk
    split at hk
    · rename_i hsh
      simp only [Bool.and_eq_true] at hsh
      cases q : findD e ds 0 with
      | none => rw [q] at hk; cases hk
      | some j =>
        rw [q] at hk
        cases hk
        obtain ⟨i, z, e1, e2, e3, e4⟩ := findD_ok q
        obtain ⟨⟨F1, f1⟩, F2, f2⟩ := s2.fz2 l ly hd he
        have ei : i = j := by omega
        subst ei
        exact ⟨p, y, e, ds, i, z, rfl, rfl, f1.dp _ _ (shaped_lay hsh.2), f2.dp _ _ (shaped_lay hsh.1), hsh.2, hsh.1, e2, e3, e4, PostD r3 _ _ (s2.none2.pint _) trivial⟩
    · cases hk
theorem e_count {apos : Pos} (ha : PE X a (tE cl W f)) (hb : PE X b (tE cl W g)) (hs2 : notSt b = true) (hbase : attributeBase a "count" X.env (eval a X.env) = eval a X.env) (hl : (apos.endLine == pos.line) = true) :
    PE X (.Call (.Attribute a "count" apos) [b] [] pos) (tE cl W fun ε => (f ε).bind fun x ε1 => ofO (rs ε1 x) fun d0 => match d0 with
      | .list _ => (g ε1).bind fun y ε2 => ofO (rs ε2 x) fun d => ofO (rs ε2 y) fun e => ofO (b2v .count d e) fun r => .ok (.dat r.1 r.2) ε2
      | _ => .st) :=
  PE.mono (pe_bm PySem.F.plainAttrs_list PySem.F.slot_list_count PySem.F.type_list_count mt_lcount ha (pa_cons hb pa_nil (star_cons hs2)) hbase (few1 hs2) hl (star_cons hs2) rfl) fun σ H Q h => h.b1.q fun x H1 ⟨ε, T, v, s, l, r⟩ => by
    obtain ⟨d0, hd0, r⟩ := r.ofO
    cases d0 <;> first | exact r.elim | skip
    obtain ⟨F, fz⟩ := s.fz l hd0
    obtain ⟨p, vs, rfl, rd, al⟩ := fz.list
    refine ⟨.inl ⟨rfl, vs, .inl rd⟩, ε, vE (.ref p) v ++ T, s, (Rd.more r.bind).imp fun w ε1 r H2 y s2 ly => ?_⟩
    obtain ⟨d, hd, r1⟩ := r.ofO
    obtain ⟨e, he, r2⟩ := r1.ofO
    obtain ⟨k, hk, r3⟩ := r2.ofO
    have : ∃ ds i, d = .list ds ∧ e = .int i := by cases d <;> cases e <;> first | (cases hk; done) | exact ⟨_, _, rfl, rfl⟩
    obtain ⟨ds, i, rfl, rfl⟩ := this
    simp only [b2v] at hk
    cases q : intsD ds with
    | none => rw [q] at hk; cases hk
    | some ns =>
      rw [q] at hk
      cases hk
      obtain ⟨⟨F1, f1⟩, F2, f2⟩ := s2.fz2 l ly hd he
      obtain ⟨p2, vs2, e2, rd2, al2⟩ := f1.list
      rw [intsD_map q] at al2
      have ev := fz_ints al2
      subst ev
      exact ⟨p2, ns, i, e2, by rw [f2.int_], .inl rd2, PostD r3 _ _ (s2.none2.pint _) trivial⟩
end
end Kr

set_option Elab.async false
set_option linter.all false
set_option maxRecDepth 100000
set_option maxHeartbeats 1000000
namespace Kr
open PySem PySem.Spec PyProof.Rows L2
section
variable {X : Cx} {cl : Cl} {W : WX} {σ : L2.St} {ε : Sg} {T M Z : List Ent} {H H' : Hp} {x y z : V} {n m i j : Nat} {d e : D} {v u : EV} {Q : VK} {a b c : Expr} {pos p : Pos} {f g h : Sg → R EV} {F : Addr → Prop} {vs : List V} {ds : List D}
/-! ### an owned list, changed -/
theorem State.openL (s : State σ ε ((x, n + 1, .list ds) :: T) H) : ∃ (a : Addr) (vs : List V), x = .ref a ∧ H a = some (.lst vs) ∧ vs.length = ds.length := by
  obtain ⟨E, a, b⟩ := s
  rcases (b.perm List.perm_middle).open_ with h | ⟨a, o, vs, ds', e, ho, c, hl, _⟩
  · cases h
  · cases c
    exact ⟨a, vs, e, ho, hl⟩
theorem State.reL {a : Addr} {vs' : List V} {ds' : List D} (s : State σ ε ((.ref a, n + 1, .list ds) :: (Z ++ T)) H) (ho : H a = some (.lst vs)) (hl : vs'.length = ds'.length) (p : (Z ++ entsOf n vs ds).Perm (M ++ entsOf n vs' ds')) :
    State σ ε ((.ref a, n + 1, .list ds') :: (M ++ T)) (L2.upd H a (.lst vs')) := by
  refine State.step (M := (.ref a, n + 1, .list ds) :: Z) (M' := (.ref a, n + 1, .list ds') :: M) s fun L q => ?_
  rcases Sep.open_ q with h | ⟨a', o, vs2, ds2, e, ho', c, hl2, q2⟩
  · cases h
  · cases e
    rw [ho] at ho'
    cases ho'
    cases c
    have q3 : Sep [a] H (entsOf n vs' ds' ++ (M ++ L)) := q2.perm (by
      show (entsOf n vs ds ++ (Z ++ L)).Perm (entsOf n vs' ds' ++ (M ++ L))
      rw [← List.append_assoc, ← List.append_assoc]
      refine List.Perm.append_right L ?_
      exact (List.perm_append_comm.trans p).trans List.perm_append_comm)
    exact q3.close hl (.lst vs' ds')
theorem ents_last (hl : vs.length = ds.length) (h1 : vs[vs.length - 1]? = some y) (h2 : ds.getLast? = some e) : entsOf n vs ds = entsOf n vs.dropLast ds.dropLast ++ [(y, n, e)] := by
  obtain ⟨vs2, rfl⟩ := List.getLast?_eq_some_iff.mp (show vs.getLast? = some y by rw [List.getLast?_eq_getElem?]; exact h1)
  obtain ⟨ds2, rfl⟩ := List.getLast?_eq_some_iff.mp h2
  rw [List.dropLast_concat, List.dropLast_concat, entsOf_app (by simpa using hl)]
  rfl
theorem ents_erase : ∀ {vs : List V} {ds : List D} {j : Nat}, vs.length = ds.length → vs[j]? = some y → ds[j]? = some e → (entsOf n vs ds).Perm ((y, n, e) :: entsOf n (vs.eraseIdx j) (ds.eraseIdx j))
  | [], _, _, _, h, _ => by simp at h
  | _ :: _, [], _, h, _, _ => by simp at h
  | v :: vs, d :: ds, 0, _, h1, h2 => by cases h1; cases h2; exact List.Perm.refl _
  | v :: vs, d :: ds, j + 1, hl, h1, h2 => (List.Perm.cons _ (ents_erase (j := j) (by simpa using hl) (by simpa using h1) (by simpa using h2))).trans (List.Perm.swap _ _ _)
theorem ents_set (z : V) (d : D) : ∀ {vs : List V} {ds : List D} {j : Nat}, vs.length = ds.length → vs[j]? = some y → ds[j]? = some e → ((z, n, d) :: entsOf n vs ds).Perm ((y, n, e) :: entsOf n (vs.set j z) (ds.set j d))
  | [], _, _, _, h, _ => by simp at h
  | _ :: _, [], _, h, _, _ => by simp at h
  | v :: vs, d' :: ds, 0, _, h1, h2 => by cases h1; cases h2; exact List.Perm.swap _ _ _
  | v :: vs, d' :: ds, j + 1, hl, h1, h2 => by
    have := ents_set z d (j := j) (vs := vs) (ds := ds) (by simpa using hl) (by simpa using h1) (by simpa using h2)
    exact (List.Perm.swap _ _ _).trans ((List.Perm.cons _ this).trans (List.Perm.swap _ _ _))
theorem at_of_len {vs : List V} {ds : List D} (hl : vs.length = ds.length) (h : ds[j]? = some e) : ∃ y, vs[j]? = some y := by
  have := (List.getElem?_eq_some_iff.mp h).1
  exact ⟨vs[j]'(by omega), List.getElem?_eq_getElem _⟩
/-- a slot's owned list -/
theorem State.slotL (s : State σ ε T H) (q : sval ε i = some (n + 1, .list ds)) : ∃ (a : Addr) (vs : List V), σ[i]? = some (some (.ref a)) ∧ H a = some (.lst vs) ∧ vs.length = ds.length ∧ State σ (ε.set i .un) ((.ref a, n + 1, .list ds) :: T) H := by
  obtain ⟨z, hz, s1⟩ := s.take q
  obtain ⟨a, vs, rfl, ho, hl⟩ := s1.openL
  exact ⟨a, vs, hz, ho, hl, s1⟩
theorem State.backL (s : State σ (ε.set i .un) ((x, n, d) :: T) H) (q : sval ε i = some (m, e)) (hx : σ[i]? = some (some x)) : State σ (ε.set i (.v n d)) T H := by
  have := s.put' (i := i) (by rw [List.length_set]; exact sval_lt q) hx
  rwa [List.set_set] at this
theorem slot_ty {K : PySem.W.Frag} {nn : Nat} (s : State σ ε T H) (q : sval ε i = some (nn, .list ds)) : ∃ x, σ[i]? = some (some x) ∧ tyV K "list" x H := by
  obtain ⟨z, hz, s1⟩ := s.take q
  obtain ⟨F, fz⟩ := s1.fz1
  obtain ⟨a, vs, rfl, rd, al⟩ := fz.list
  exact ⟨_, hz, .inl ⟨rfl, vs, .inl rd⟩⟩
theorem nameBase {x : Str} {p : Pos} (nm : Str) : attributeBase (.Name x p) nm X.env (eval (.Name x p) X.env) = eval (.Name x p) X.env := rfl
theorem e_pop {x : Str} {p apos : Pos} (hN : X.N[i]? = some x) (hv : Vis X.env.scope x) (hd : (x == ("__debug__" : Str)) = false) (hcd : (x == ("__classdict__" : Str)) = false) (hl : (apos.endLine == pos.line) = true) :
    PE X (.Call (.Attribute (.Name x p) "pop" apos) [] [] pos) (tE cl W fun ε => ofO (sval ε i) fun p => match p with
      | (n + 1, .list xs) => ofO xs.getLast? fun e => .ok (.dat n e) (ε.set i (.v (n + 1) (.list xs.dropLast)))
      | _ => .st) :=
  PE.mono (pe_bm0 PySem.F.plainAttrs_list PySem.F.slot_list_pop PySem.F.type_list_pop mt_pop (pe_var hN hv hd hcd) (nameBase _) hl) fun σ H Q ⟨ε, T, s, r⟩ => by
    obtain ⟨p, q, r⟩ := r.ofO
    obtain ⟨k, d⟩ := p
    cases k <;> cases d <;> first | exact r.elim | skip
    rename_i n ds
    obtain ⟨e, he, r⟩ := r.ofO
    obtain ⟨a, vs, hx, ho, hlen, s1⟩ := s.slotL q
    have hpos : 0 < ds.length := by
      cases ds with
      | nil => cases he
      | cons d ds => simp
    obtain ⟨y, hy⟩ := at_of_len (j := ds.length - 1) (e := e) hlen (by rw [← List.getLast?_eq_getElem?]; exact he)
    have hy' : vs[vs.length - 1]? = some y := by rw [hlen]; exact hy
    refine ⟨_, hx, .inl ⟨rfl, vs, .inl (.inl ho)⟩, a, vs, y, rfl, rfl, ho, hy', ?_⟩
    have s2 : State σ (ε.set i .un) ((.ref a, n + 1, .list ds.dropLast) :: ([(y, n, e)] ++ T)) (L2.upd H a (.lst vs.dropLast)) := State.reL (Z := []) s1 ho (by simp [hlen]) (by
      rw [ents_last hlen hy' he, List.nil_append]
      exact List.perm_append_comm)
    exact PostD r _ _ (s2.backL q hx) trivial
theorem e_popAt {x : Str} {p apos : Pos} (hN : X.N[i]? = some x) (hv : Vis X.env.scope x) (hd : (x == ("__debug__" : Str)) = false) (hcd : (x == ("__classdict__" : Str)) = false) (hl : (apos.endLine == pos.line) = true) (ha : PE X a (tE cl W f)) (hs : notSt a = true) :
    PE X (.Call (.Attribute (.Name x p) "pop" apos) [a] [] pos) (tE cl W fun ε => ofO (sval ε i) fun p0 => match p0.2 with
    | .list _ => (f ε).bind fun x ε1 => ofO (rs ε1 x) fun k => match k with
      | .int k => ofO (sval ε1 i) fun p => match p with
        | (n + 1, .list xs) => ofO (ixN xs.length k) fun j => ofO xs[j]? fun e => if xs.length ≤ sizeLine then .ok (.dat n e) (ε1.set i (.v (n + 1) (.list (xs.eraseIdx j)))) else .st
        | _ => .st
      | _ => .st
    | _ => .st) :=
  PE.mono (pe_bm PySem.F.plainAttrs_list PySem.F.slot_list_pop PySem.F.type_list_pop mt_popAt (pe_var hN hv hd hcd) (pa_cons ha pa_nil (star_cons hs)) (nameBase _) (few1 hs) hl (star_cons hs) rfl) fun σ H Q ⟨ε, T, s, r⟩ => by
    obtain ⟨⟨k0, d0⟩, q0, r⟩ := r.ofO
    cases d0 <;> first | exact r.elim | skip
    obtain ⟨x0, hx0, ty⟩ := slot_ty (K := X.K) s q0
    refine ⟨x0, hx0, ty, ε, T, s, r.bind.imp fun w ε1 r H2 y s2 ly => ?_⟩
    obtain ⟨k, hk, r⟩ := r.ofO
    cases k <;> first | exact r.elim | skip
    rename_i k
    have ey := s2.int_ ly hk
    obtain ⟨p, q, r⟩ := r.ofO
    obtain ⟨kk, d⟩ := p
    cases kk <;> cases d <;> first | exact r.elim | skip
    rename_i n ds
    obtain ⟨j, hj, r⟩ := r.ofO
    obtain ⟨e, he, r⟩ := r.ofO
    obtain ⟨hz, r⟩ := r.ite
    obtain ⟨a, vs, hx, ho, hlen, s1⟩ := s2.dropN.slotL q
    obtain ⟨y', hy⟩ := at_of_len hlen he
    rw [hx0] at hx
    cases hx
    obtain ⟨h1, h2, h3, h4⟩ := ixN_seq hj
    have hln := line63
    refine ⟨a, vs, k, j, y', rfl, by rw [ey], ho, by omega, by omega, by rw [hlen]; exact h1, hy, ?_⟩
    have s3 : State σ (ε1.set i .un) ((.ref a, n + 1, .list (ds.eraseIdx j)) :: ([(y', n, e)] ++ T)) (L2.upd H2 a (.lst (vs.eraseIdx j))) := State.reL (Z := []) s1 ho (by rw [List.length_eraseIdx, List.length_eraseIdx, hlen]) (ents_erase hlen hy he)
    exact PostD r _ _ (s3.backL q hx0) trivial
end
end Kr

set_option Elab.async false
set_option linter.all false
set_option maxRecDepth 100000
set_option maxHeartbeats 1000000
namespace Kr
open PySem PySem.Spec PyProof.Rows L2
/-! ### what is walked -/
/-- J yields the items ds as long as the things of M stand -/
def WalkOk (J : It) (M : List Ent) (ds : List D) : Prop := ∀ (i : Nat) (σ : L2.St) (ε : Sg) (T : List Ent) (H : Hp), State σ ε (M ++ T) H →
  (∀ d, ds[i]? = some d → J.go i H ∧ ∀ x H', J.yld i H x H' → State σ ε ((x, 0, d) :: (M ++ T)) H') ∧ (ds[i]? = none → J.stop i H)
def tI (cl : Cl) (W : WX) (f : Sg → R (List D)) : TI := fun σ H Q => ∃ ε T, State σ ε T H ∧ Rd cl σ T W (f ε) (fun ds ε' => ∀ J M H', WalkOk J M ds → State σ ε' (M ++ T) H' → Q J H')
section
variable {X : Cx} {cl : Cl} {W : WX} {σ : L2.St} {ε : Sg} {T M Z : List Ent} {H H' : Hp} {x y z : V} {n m i j : Nat} {d e : D} {v u : EV} {Q : VK} {a b c tg : Expr} {pos p : Pos} {f g h : Sg → R EV} {F : Addr → Prop} {vs : List V} {ds : List D} {K : PySem.W.Frag}
theorem PI.mono' {tg e : Expr} {t t' : TI} (h : PI X tg e t) (m : ∀ σ H Q, t' σ H Q → t σ H Q) : PI X tg e t' := ⟨fun pins s σ H Q I q => h.run pins s σ H Q I (m σ H Q q)⟩
theorem State.item (s : State σ ε ((x, 0, .list ds) :: T) H) : ∃ (a : Addr) (vs : List V), x = .ref a ∧ L2.Rd H a (.lst vs) ∧ vs.length = ds.length ∧ ∀ (j : Nat) (z : V) (e : D), vs[j]? = some z → ds[j]? = some e → State σ ε ((z, 0, e) :: (x, 0, .list ds) :: T) H := by
  obtain ⟨a, vs, ex, r, hl, s1⟩ := State.share (v := .dat 0 (.list ds)) (T := (x, 0, .list ds) :: T) s.dup trivial rfl
  exact ⟨a, vs, ex, r, hl, fun j z e h1 h2 => s1.pick (ents_at h1 h2)⟩
theorem State.itemT (s : State σ ε ((x, 0, .tuple ds) :: T) H) : ∃ (a : Addr) (vs : List V), x = .ref a ∧ H a = some (.tup vs) ∧ vs.length = ds.length ∧ ∀ (j : Nat) (z : V) (e : D), vs[j]? = some z → ds[j]? = some e → State σ ε ((z, 0, e) :: (x, 0, .tuple ds) :: T) H := by
  obtain ⟨a, vs, ex, r, hl, s1⟩ := State.shareT (v := .dat 0 (.tuple ds)) (T := (x, 0, .tuple ds) :: T) s.dup trivial rfl
  exact ⟨a, vs, ex, r, hl, fun j z e h1 h2 => s1.pick (ents_at h1 h2)⟩
theorem walk_l {a : Addr} : WalkOk (Itl K a) [(.ref a, 0, .list ds)] ds := fun i σ ε T H s => by
  obtain ⟨a', vs, ex, r, hl, k⟩ := State.item (T := T) s
  cases ex
  refine ⟨fun d hd => ?_, fun hn => ⟨vs, .inl r, ?_⟩⟩
  · obtain ⟨z, hz⟩ := at_of_len hl hd
    refine ⟨⟨vs, z, .inl r, hz⟩, fun x H' ⟨e1, y⟩ => ?_⟩
    subst e1
    have := y vs (.inl r)
    rw [hz] at this
    cases this
    exact k i z d hz hd
  · rw [hl]
    exact List.getElem?_eq_none_iff.mp hn
theorem walk_t {a : Addr} : WalkOk (Itt K a) [(.ref a, 0, .tuple ds)] ds := fun i σ ε T H s => by
  obtain ⟨a', vs, ex, r, hl, k⟩ := State.itemT (T := T) s
  cases ex
  refine ⟨fun d hd => ?_, fun hn => ⟨vs, .inl (.inl r), ?_⟩⟩
  · obtain ⟨z, hz⟩ := at_of_len hl hd
    refine ⟨⟨vs, z, .inl (.inl r), hz⟩, fun x H' ⟨e1, y⟩ => ?_⟩
    subst e1
    have := y vs (.inl (.inl r))
    rw [hz] at this
    cases this
    exact k i z d hz hd
  · rw [hl]
    exact List.getElem?_eq_none_iff.mp hn
theorem rangeD_at {lo : Int} {n i : Nat} : (rangeD lo n)[i]? = if i < n then some (.int (lo + (i : Nat))) else none := by
  unfold rangeD
  rw [List.getElem?_map]
  by_cases h : i < n
  · rw [if_pos h, List.getElem?_range h]; rfl
  · rw [if_neg h, List.getElem?_eq_none (by simpa using h)]; rfl
theorem walk_r {lo : Int} : WalkOk (Itr lo n) [] (rangeD lo n) := fun i σ ε T H s => by
  refine ⟨fun d hd => ?_, fun hn => ?_⟩
  · rw [rangeD_at] at hd
    split at hd
    · rename_i hi
      cases hd
      refine ⟨hi, fun x H' ⟨e1, e2⟩ => ?_⟩
      subst e1 e2
      exact s.pint _
    · cases hd
  · rw [rangeD_at] at hn
    split at hn
    · cases hn
    · rename_i hi
      exact Nat.le_of_not_lt hi
theorem enumD_at : ∀ {ds : List D} {k i : Nat}, (enumD ds k)[i]? = (ds[i]?).map fun d => .tuple [.int ((k + i : Nat) : Int), d]
  | [], _, _ => by simp [enumD]
  | d :: ds, k, 0 => by simp [enumD]
  | d :: ds, k, i + 1 => by
    simp only [enumD, List.getElem?_cons_succ]
    rw [enumD_at, show k + 1 + i = k + (i + 1) by omega]
theorem State.pair {p : Addr} {x y : V} {d e : D} (s : State σ ε ((x, 0, d) :: (y, 0, e) :: T) H) (hp : H p = none) : State σ ε ((.ref p, 0, .tuple [d, e]) :: T) (L2.upd H p (.tup [x, y])) :=
  State.newT (vs := [x, y]) (ds := [d, e]) s rfl hp
theorem walk_e {a : Addr} : WalkOk (Ite K a) [(.ref a, 0, .list ds)] (enumD ds 0) := fun i σ ε T H s => by
  obtain ⟨a', vs, ex, r, hl, k⟩ := State.item (T := T) s
  cases ex
  refine ⟨fun d hd => ?_, fun hn => ⟨vs, .inl r, ?_⟩⟩
  · rw [enumD_at] at hd
    cases q : ds[i]? with
    | none => rw [q] at hd; cases hd
    | some d0 =>
      rw [q] at hd
      cases hd
      obtain ⟨z, hz⟩ := at_of_len hl q
      refine ⟨⟨vs, z, .inl r, hz⟩, fun x H' ⟨p, x0, e0, hp, e1, y⟩ => ?_⟩
      subst e0 e1
      have := y vs (.inl r)
      rw [hz] at this
      cases this
      have e3 : ((0 + i : Nat) : Int) = (i : Int) := by omega
      rw [e3]
      exact State.pair (State.pure (k i z d0 hz q) (fun _ => .int _)) hp
  · rw [enumD_at] at hn
    rw [hl]
    exact List.getElem?_eq_none_iff.mp (by simpa using hn)
theorem zipD_at : ∀ {xs ys : List D} {i : Nat} {d : D}, (zipD xs ys)[i]? = some d → ∃ x y, xs[i]? = some x ∧ ys[i]? = some y ∧ d = .tuple [x, y]
  | [], _, _, _, h => by simp [zipD] at h
  | _ :: _, [], _, _, h => by simp [zipD] at h
  | x :: xs, y :: ys, 0, d, h => by simp [zipD] at h; exact ⟨x, y, rfl, rfl, h.symm⟩
  | x :: xs, y :: ys, i + 1, d, h => by
    obtain ⟨a, b, h1, h2, h3⟩ := zipD_at (xs := xs) (ys := ys) (i := i) (by simpa [zipD] using h)
    exact ⟨a, b, by simpa using h1, by simpa using h2, h3⟩
theorem zipD_none : ∀ {xs ys : List D} {i : Nat}, (zipD xs ys)[i]? = none → xs.length ≤ i ∨ ys.length ≤ i
  | [], _, _, _ => .inl (by simp)
  | _ :: _, [], _, _ => .inr (by simp)
  | x :: xs, y :: ys, 0, h => by simp [zipD] at h
  | x :: xs, y :: ys, i + 1, h => by
    rcases zipD_none (xs := xs) (ys := ys) (i := i) (by simpa [zipD] using h) with q | q
    · exact .inl (by simpa using q)
    · exact .inr (by simpa using q)
theorem walk_z {a b : Addr} {ds es : List D} : WalkOk (Itz K a b) [(.ref b, 0, .list es), (.ref a, 0, .list ds)] (zipD ds es) := fun i σ ε T H s => by
  have sa : State σ ε ((.ref a, 0, .list ds) :: ((.ref b, 0, .list es) :: T)) H := State.swap s
  obtain ⟨a', vs, ex, r, hl, k⟩ := State.item sa
  cases ex
  obtain ⟨b', ws, ex, r2, hl2, k2⟩ := State.item (T := (.ref a, 0, .list ds) :: T) s
  cases ex
  refine ⟨fun d hd => ?_, fun hn => ⟨vs, ws, .inl r, .inl r2, ?_⟩⟩
  · obtain ⟨d1, d2, h1, h2, rfl⟩ := zipD_at hd
    obtain ⟨z, hz⟩ := at_of_len hl h1
    obtain ⟨w, hw⟩ := at_of_len hl2 h2
    refine ⟨⟨vs, ws, z, w, .inl r, .inl r2, hz, hw⟩, fun x H' ⟨p, x0, y0, e0, hp, e1, y1, y2⟩ => ?_⟩
    subst e0 e1
    have h3 := y1 vs (.inl r)
    rw [hz] at h3
    cases h3
    have h4 := y2 ws (.inl r2)
    rw [hw] at h4
    cases h4
    have s1 : State σ ε ((.ref b, 0, .list es) :: ((z, 0, d1) :: (.ref a, 0, .list ds) :: T)) H := (k i z d1 hz h1).permT (List.perm_middle (l₁ := [(z, 0, d1), (.ref a, 0, .list ds)]))
    obtain ⟨b2, ws2, ex2, r3, hl3, k3⟩ := State.item s1
    cases ex2
    have : ws2 = ws := by rcases r2 with q | ⟨_, q⟩ <;> rcases r3 with q' | ⟨_, q'⟩ <;> (rw [q] at q'; cases q'; try rfl)
    subst this
    have s2 := k3 i w d2 hw h2
    have s3 : State σ ε ((z, 0, d1) :: (w, 0, d2) :: ((.ref b, 0, .list es) :: (.ref a, 0, .list ds) :: T)) H := s2.permT (List.perm_middle (l₁ := [(w, 0, d2), (.ref b, 0, .list es)]))
    exact State.pair s3 hp
  · rcases zipD_none hn with q | q
    · exact .inl (by rw [hl]; exact q)
    · exact .inr (by rw [hl2]; exact q)
/-! ### .. written -/
theorem i_range1 (gl : Gl X "range") (hm : X.mg "range" = none) (ha : PE X a (tE cl W f)) (hs : notSt a = true) : PI X tg (.Call (.Name "range" p) [a] [] pos) (tI cl W fun ε => (f ε).bind fun x ε1 => ofO (rs ε1 x) fun d => match d with
    | .int j => if rgOk j = true then .ok (rangeD 0 j.toNat) ε1 else .st
    | _ => .st) :=
  PI.mono' (pi_range1 gl hm (a_one ha hs) (star_cons hs)) fun σ H R ⟨ε, T, s, r⟩ => ⟨ε, T, s, r.bind.imp fun v ε1 r H1 x s1 l => by
    obtain ⟨d, hd, r⟩ := r.ofO
    cases d <;> first | exact r.elim | skip
    obtain ⟨ho, r⟩ := r.ite
    have ho := of_decide_eq_true ho
    exact ⟨_, by rw [s1.int_ l hd], ho.1, ho.2, r _ [] _ walk_r s1.dropN⟩⟩
theorem i_range2 (gl : Gl X "range") (hm : X.mg "range" = none) (ha : PE X a (tE cl W f)) (hb : PE X b (tE cl W g)) (hs : notSt a = true) (hs2 : notSt b = true) : PI X tg (.Call (.Name "range" p) [a, b] [] pos) (tI cl W fun ε => (f ε).bind fun x ε1 => (g ε1).bind fun y ε2 => ofO (rs ε2 x) fun d => ofO (rs ε2 y) fun e => match d, e with
    | .int i, .int j => if rgOk i && rgOk j = true then .ok (rangeD i (j - i).toNat) ε2 else .st
    | _, _ => .st) :=
  PI.mono' (pi_range2 gl hm (a_two ha hb hs hs2) ((star_cons hs).trans (congrArg _ (star_cons hs2))) (star_cons hs2)) fun σ H R ⟨ε, T, s, r⟩ => (go1 (Po := fun T ds ε' => ∀ J M H', WalkOk J M ds → State σ ε' (M ++ T) H' → R J H') s r).q fun x H1 h => (go2 h).q fun y H2 ⟨ε, T, v, w, s, lx, ly, r⟩ => by
    obtain ⟨d, hd, r⟩ := r.ofO
    obtain ⟨e, he, r⟩ := r.ofO
    have : ∃ i j, d = .int i ∧ e = .int j := by cases d <;> cases e <;> first | exact r.elim | exact ⟨_, _, rfl, rfl⟩
    obtain ⟨i, j, rfl, rfl⟩ := this
    obtain ⟨ho, r⟩ := Rd.ite (r := .ok (rangeD i (j - i).toNat) ε) r
    simp only [Bool.and_eq_true] at ho
    have h1 := of_decide_eq_true ho.1
    have h2 := of_decide_eq_true (of_decide_eq_true ho.2)
    obtain ⟨rfl, rfl⟩ := s.int2 lx ly hd he
    exact ⟨_, _, rfl, ⟨h1.1, h1.2, h2.1, h2.2⟩, r _ [] _ walk_r s.none2⟩
theorem i_enum {elts : List Expr} {kk : Nat} {tpos : Pos} (gl : Gl X "enumerate") (hm : X.mg "enumerate" = none) (ha : PE X a (tE cl W f)) (hs : notSt a = true) : PI X (.Tuple elts kk tpos) (.Call (.Name "enumerate" p) [a] [] pos) (tI cl W fun ε => (f ε).bind fun x ε1 => ofO (esc ε1 x) fun (_, d, ε2) => match d with
    | .list ds => .ok (enumD ds 0) ε2
    | _ => .st) :=
  PI.mono' (pi_enum gl hm (a_one ha hs) (star_cons hs)) fun σ H R ⟨ε, T, s, r⟩ => ⟨ε, T, s, r.bind.imp fun v ε1 r H1 x s1 l => by
    obtain ⟨⟨m, d, ε2⟩, he, r⟩ := r.ofO
    cases d <;> first | exact r.elim | skip
    rename_i ds
    have s2 := (s1.esc l he).weak (Nat.zero_le _)
    obtain ⟨a, vs, ex, rd, hl, _⟩ := s2.item
    subst ex
    exact ⟨a, vs, rfl, .inl rd, r _ _ _ walk_e s2⟩⟩
theorem i_zip {elts : List Expr} {kk : Nat} {tpos : Pos} (gl : Gl X "zip") (hm : X.mg "zip" = none) (ha : PE X a (tE cl W f)) (hb : PE X b (tE cl W g)) (hs : notSt a = true) (hs2 : notSt b = true) : PI X (.Tuple elts kk tpos) (.Call (.Name "zip" p) [a, b] [] pos) (tI cl W fun ε => (f ε).bind fun x ε1 => ofO (esc ε1 x) fun (_, d, ε2) => (g ε2).bind fun y ε3 => ofO (esc ε3 y) fun (_, e, ε4) => match d, e with
    | .list xs, .list ys => .ok (zipD xs ys) ε4
    | _, _ => .st) :=
  PI.mono' (pi_zip gl hm (a_two ha hb hs hs2) (star_cons hs) (by have := noStars (pos := pos) (env := X.env) (es := [b]) (by simp [hs2]); exact this)) fun σ H R ⟨ε, T, s, r⟩ => ⟨ε, T, s, r.bind.imp fun v ε1 r H1 x s1 l => by
    obtain ⟨⟨m, d, ε2⟩, he, r⟩ := r.ofO
    have s2 := (s1.esc l he).weak (Nat.zero_le _)
    refine ⟨ε2, (x, 0, d) :: T, s2, (Rd.more (M := [(x, 0, d)]) r.bind).imp fun w ε3 r H2 y s3 l3 => ?_⟩
    obtain ⟨⟨m2, e, ε4⟩, he2, r⟩ := r.ofO
    have : ∃ xs ys, d = .list xs ∧ e = .list ys := by cases d <;> cases e <;> first | exact r.elim | exact ⟨_, _, rfl, rfl⟩
    obtain ⟨xs, ys, rfl, rfl⟩ := this
    have s4 := (s3.esc l3 he2).weak (Nat.zero_le _)
    obtain ⟨b, ws, ex, rd2, hl2, _⟩ := s4.item
    subst ex
    obtain ⟨a, vs, ex, rd, hl, _⟩ := s4.swap.item
    subst ex
    exact ⟨a, b, vs, ws, rfl, .inl rd, .inl rd2, r _ _ _ walk_z s4⟩⟩
/-- a list or a tuple: iterated by its kind, which the text alone does not tell -/
theorem i_seq (ha : PE X a (tE cl W f)) : PI X tg a (tI cl W fun ε => (f ε).bind fun x ε1 => ofO (esc ε1 x) fun (_, d, ε2) => match d with
    | .list ds => .ok ds ε2
    | .tuple ds => .ok ds ε2
    | _ => .st) := by
  refine ⟨fun pins s σ H R I ⟨ε, T, st, r⟩ => ?_⟩
  have h2 : tE cl W f σ H (fun x H1 => (∃ a, x = .ref a ∧ (∃ xs, SqL X.K H1 a xs) ∧ R (Itl X.K a) H1) ∨ (∃ a, x = .ref a ∧ (∃ xs, SqT X.K H1 a xs) ∧ R (Itt X.K a) H1)) := ⟨ε, T, st, r.bind.imp fun v ε1 r H1 x s1 l => by
    obtain ⟨⟨m, d, ε2⟩, he, r⟩ := r.ofO
    have s2 := (s1.esc l he).weak (Nat.zero_le _)
    cases d <;> first | exact r.elim | skip
    · obtain ⟨a, vs, ex, rd, hl, _⟩ := s2.item
      subst ex
      exact .inl ⟨a, rfl, ⟨vs, .inl rd⟩, r _ _ _ walk_l s2⟩
    · obtain ⟨a, vs, ex, rd, hl, _⟩ := s2.itemT
      subst ex
      exact .inr ⟨a, rfl, ⟨vs, .inl (.inl rd)⟩, r _ _ _ walk_t s2⟩⟩
  refine thn (ha.run pins s σ H _ I h2) fun v s1 ⟨x, H1, I1, r1, q1⟩ => ?_
  have same : ∀ {t : Prop}, t → t := id
  rcases q1 with ⟨p, ex, hx, q⟩ | ⟨p, ex, hx, q⟩
  · subst ex
    cases r1
    obtain ⟨xs, hq⟩ := hx
    obtain ⟨its, rv, pl, hz⟩ := I1.list hq
    refine wpAny_pyIter_list pl.isList ⟨s1.heap.objs.size, [s1.heap.objs.size], _, _, H1, rfl, I1.kept (t' := s1.toks) fun b o e => Heap.get?_push_of_some _ e, turn_list p _, ⟨_, Heap.get?_push_size _ rfl, rfl, rfl⟩, fun b hb => ?_, q⟩
    obtain rfl : b = s1.heap.objs.size := by simpa using hb
    exact I1.fpOk (Nat.le_refl _) (I1.hok.fresh (Nat.le_refl _))
  · subst ex
    cases r1
    obtain ⟨xs, hq⟩ := hx
    obtain ⟨its, rv, pl, hz⟩ := I1.tuple hq
    refine wpAny_pyIter_tuple (show s1.heap.IsTuple p its.toArray from pl) ⟨s1.heap.objs.size, [s1.heap.objs.size], _, _, H1, rfl, I1.kept (t' := s1.toks) fun b o e => Heap.get?_push_of_some _ e, turn_tuple p _, ⟨_, Heap.get?_push_size _ rfl, rfl, rfl⟩, fun b hb => ?_, q⟩
    obtain rfl : b = s1.heap.objs.size := by simpa using hb
    exact I1.fpOk (Nat.le_refl _) (I1.hok.fresh (Nat.le_refl _))
end
end Kr

set_option Elab.async false
set_option linter.all false
set_option maxRecDepth 100000
set_option maxHeartbeats 1000000
namespace Kr
open PySem PySem.Spec PyProof.Rows L2
mutual
def tgs : TG → List Nat
  | .name i => [i]
  | .tup ts => tgss ts
def tgss : TGs → List Nat
  | .nil => []
  | .cons t ts => tgs t ++ tgss ts
end
def TGs.len : TGs → Nat
  | .nil => 0
  | .cons _ ts => ts.len + 1
/-- the slots but those of l are as they were -/
def Near (Γ : List Nat) (l : List Nat) (σ σ' : L2.St) : Prop := σ'.length = σ.length ∧ ∀ j : Nat, (Γ[j]? = some 1000 ∨ j ∉ l) → σ'[j]? = σ[j]?
theorem Near.refl {Γ l : List Nat} {σ : L2.St} : Near Γ l σ σ := ⟨rfl, fun _ _ => rfl⟩
theorem Near.trans {Γ l l' : List Nat} {σ σ' σ2 : L2.St} (a : Near Γ l σ σ') (b : Near Γ l' σ' σ2) : Near Γ (l ++ l') σ σ2 := ⟨b.1.trans a.1, fun j h => by
  have h1 : Γ[j]? = some 1000 ∨ j ∉ l := h.imp id fun q z => q (List.mem_append_left _ z)
  have h2 : Γ[j]? = some 1000 ∨ j ∉ l' := h.imp id fun q z => q (List.mem_append_right _ z)
  rw [b.2 j h2, a.2 j h1]⟩
theorem Near.mono {Γ l l' : List Nat} {σ σ' : L2.St} (a : Near Γ l σ σ') (h : ∀ j ∈ l, j ∈ l') : Near Γ l' σ σ' := ⟨a.1, fun j q => a.2 j (q.imp id fun z y => z (h j y))⟩
def gT (Γ : List Nat) (t : TG) : L2.TG := fun v σ H Q => ∃ ε T d ε', State σ ε ((v, 0, d) :: T) H ∧ setTG Γ t d ε = some ε' ∧ ∀ σ', Near Γ (tgs t) σ σ' → State σ' ε' T H → Q σ' H
def gTs (Γ : List Nat) (ts : TGs) : L2.TGs := fun vs σ H Q => ∃ ε T ds ε', vs.length = ds.length ∧ State σ ε (entsOf 0 vs ds ++ T) H ∧ setTGs Γ ts ds ε = some ε' ∧ ∀ σ', Near Γ (tgss ts) σ σ' → State σ' ε' T H → Q σ' H
section
variable {X : Cx} {Γ : List Nat} {σ : L2.St} {ε ε' : Sg} {T M : List Ent} {H : Hp} {x : V} {n m i : Nat} {d : D} {pos : Pos}
theorem setSl_ok (h : setSl Γ i m d ε = some ε') : ∃ k, Γ[i]? = some k ∧ k ≤ m ∧ k < 1000 ∧ i < ε.length ∧ ε' = ε.set i (.v k d) := by
  unfold setSl at h
  cases q : Γ[i]? with
  | none => rw [q] at h; cases h
  | some k =>
    rw [q] at h
    simp only at h
    split at h
    · rename_i hk
      split at h
      · rename_i hi
        cases h
        exact ⟨k, rfl, hk.1, hk.2, hi, rfl⟩
      · cases h
    · cases h
theorem near_set (v : Option V) (h : Γ[i]? ≠ some 1000) : Near Γ [i] σ (σ.set i v) := ⟨List.length_set, fun j hj => by
  have : i ≠ j := by
    rintro rfl
    rcases hj with q | q
    · exact h q
    · exact q List.mem_cons_self
  rw [List.getElem?_set_ne this]⟩
/-- a value is stored in a slot -/
theorem State.store (s : State σ ε ((x, m, d) :: T) H) (h : setSl Γ i m d ε = some ε') : State (σ.set i (some x)) ε' T H ∧ Near Γ [i] σ (σ.set i (some x)) := by
  obtain ⟨k, h1, h2, h3, h4, rfl⟩ := setSl_ok h
  exact ⟨(s.weak h2).put h4, near_set _ (by rw [h1]; intro q; cases q; omega)⟩
theorem g_name {y : Str} (hN : X.N.Nodup) (hi : X.N[i]? = some y) (hx : Loc X.env.scope y) (hf : X.fn y = true ∨ X.env.scope.names.lookup y = some .local) : PG X (.Name y pos) (gT Γ (.name i)) :=
  ⟨fun pins s σ H v u Q I r ⟨ε, T, d, ε', st, h, k⟩ => (pg_name hN hi hx hf).run pins s σ H v u Q I r (by
    obtain ⟨s1, nr⟩ := st.store (Γ := Γ) (i := i) h
    exact k _ nr s1)⟩
theorem assignEach_len {env : Env} : ∀ es : List Expr, (assignEach es env).length = es.length
  | [] => rfl
  | e :: es => by
    cases e <;> exact congrArg Nat.succ (assignEach_len es)
theorem assignEach_cons {e : Expr} {es : List Expr} {env : Env} (h : notSt e = true) : assignEach (e :: es) env = (false, assign e env) :: assignEach es env := by
  cases e <;> first | rfl | cases h
theorem assignEach_find {env : Env} : ∀ {es : List Expr}, es.all notSt = true → (assignEach es env).findIdx? (·.1) = none
  | [], _ => rfl
  | e :: es, h => by
    simp only [List.all_cons, Bool.and_eq_true] at h
    rw [assignEach_cons h.1, List.findIdx?_cons]
    simp [assignEach_find h.2]
theorem setTGs_len : ∀ {ts : TGs} {ds : List D} {ε ε' : Sg}, setTGs Γ ts ds ε = some ε' → ds.length = ts.len
  | .nil, [], _, _, _ => rfl
  | .nil, _ :: _, _, _, h => by simp [setTGs] at h
  | .cons _ _, [], _, _, h => by simp [setTGs] at h
  | .cons t ts, d :: ds, ε, ε', h => by
    simp only [setTGs] at h
    cases q : setTG Γ t d ε with
    | none => rw [q] at h; cases h
    | some ε1 => rw [q] at h; simp [TGs.len, setTGs_len h]
theorem g_tup {ts : TGs} {es : List Expr} {k : Nat} (hc : X.calm = true) (hs : es.all notSt = true) (hl : es.length = ts.len) (h : PGs X es (gTs Γ ts)) : PG X (.Tuple es k pos) (gT Γ (.tup ts)) :=
  ⟨fun pins s σ H v u Q I r ⟨ε, T, d, ε', st, he, kk⟩ => by
    have : (∃ ds, d = .tuple ds) ∨ ∃ ds, d = .list ds := by cases d <;> first | (simp [setTG] at he; done) | exact .inl ⟨_, rfl⟩ | exact .inr ⟨_, rfl⟩
    rcases this with ⟨ds, rfl⟩ | ⟨ds, rfl⟩
    · exact (pg_tup (n := ts.len) hc h (by rw [assignEach_len, hl]) (assignEach_find hs)).run pins s σ H v u Q I r (by
        obtain ⟨a, vs, ex, rd, hlen, s1⟩ := State.shareT (v := .dat 0 (.tuple ds)) st trivial rfl
        have hn := setTGs_len (show setTGs Γ ts ds ε = some ε' from he)
        exact ⟨a, vs, ex, .inl (.inl rd), by rw [hlen, hn], ε, T, ds, ε', hlen, s1, he, kk⟩)
    · exact (pg_unl (n := ts.len) hc h (by rw [assignEach_len, hl]) (assignEach_find hs)).run pins s σ H v u Q I r (by
        obtain ⟨a, vs, ex, rd, hlen, s1⟩ := State.share (v := .dat 0 (.list ds)) st trivial rfl
        have hn := setTGs_len (show setTGs Γ ts ds ε = some ε' from he)
        exact ⟨a, vs, ex, .inl rd, by rw [hlen, hn], ε, T, ds, ε', hlen, s1, he, kk⟩)⟩
theorem gs_nil : PGs X [] (gTs Γ .nil) :=
  ⟨fun pins s σ H vs us Q I r ⟨ε, T, ds, ε', hl, st, he, kk⟩ => pgs_nil.run pins s σ H vs us Q I r (by
    have e1 : ds = [] := List.eq_nil_of_length_eq_zero (setTGs_len he)
    subst e1
    have e2 : vs = [] := List.eq_nil_of_length_eq_zero hl
    subst e2
    cases he
    exact ⟨rfl, kk σ Near.refl st⟩)⟩
theorem gs_cons {t : TG} {ts : TGs} {e : Expr} {es : List Expr} (hs : notSt e = true) (h1 : PG X e (gT Γ t)) (h2 : PGs X es (gTs Γ ts)) : PGs X (e :: es) (gTs Γ (.cons t ts)) :=
  ⟨fun pins s σ H vs us Q I r ⟨ε, T, ds, ε', hl, st, he, kk⟩ => (pgs_cons h1 h2 (by rw [assignEach_cons hs]; rfl)).run pins s σ H vs us Q I r (by
    cases ds with
    | nil => simp [setTGs] at he
    | cons d ds =>
      cases vs with
      | nil => simp at hl
      | cons v vs =>
        simp only [setTGs] at he
        cases q : setTG Γ t d ε with
        | none => rw [q] at he; cases he
        | some ε1 =>
          rw [q] at he
          refine ⟨v, vs, rfl, ε, entsOf 0 vs ds ++ T, d, ε1, st, q, fun σ1 n1 s1 => ⟨ε1, T, ds, ε', by simpa using hl, s1, he, fun σ2 n2 s2 => kk σ2 (n1.trans n2) s2⟩⟩)⟩
end
/-! ### the block of a comprehension -/
theorem er_off : ∀ {σ σ' : L2.St} {ε : Sg} {E : List Ent}, ER σ ε E → σ'.length = σ.length → (∀ j : Nat, σ'[j]? = σ[j]? ∨ ε[j]? = some Sl.un) → ER σ' ε E
  | _, [], _, _, .nil, _, _ => .nil
  | _, _ :: _, _, _, .nil, h, _ => by simp at h
  | _, [], _, _, .un _, h, _ => by simp at h
  | _, [], _, _, .v _, h, _ => by simp at h
  | _, o' :: σ', _, _, .un r, h, k => .un (er_off r (by simpa using h) fun j => by simpa using k (j + 1))
  | _, o' :: σ', _, _, .v r, h, k => by
    have h0 := k 0
    simp only [List.getElem?_cons_zero, Option.some.injEq] at h0
    rcases h0 with h0 | h0
    · subst h0
      exact .v (er_off r (by simpa using h) fun j => by simpa using k (j + 1))
    · cases h0
theorem State.off {σ σ' : L2.St} {ε : Sg} {T : List Ent} {H : Hp} (s : State σ ε T H) (hl : σ'.length = σ.length) (k : ∀ j : Nat, σ'[j]? = σ[j]? ∨ ε[j]? = some Sl.un) : State σ' ε T H := let ⟨E, a, b⟩ := s; ⟨E, er_off a hl k, b⟩
theorem wipeS_len : ∀ (l : List Nat) (ε : Sg), (wipeS l ε).length = ε.length
  | [], _ => rfl
  | i :: r, ε => by simp [wipeS, wipeS_len r]
theorem wipeS_at {ε : Sg} {j : Nat} : ∀ {l : List Nat}, j ∈ l → j < ε.length → (wipeS l ε)[j]? = some .un
  | i :: r, h, hl => by
    simp only [wipeS]
    by_cases hj : i = j
    · subst hj
      rw [List.getElem?_set_self (by rw [wipeS_len]; exact hl)]
    · rw [List.getElem?_set_ne hj]
      exact wipeS_at ((List.mem_cons.mp h).resolve_left (Ne.symm hj)) hl
theorem State.wipes {σ : L2.St} {ε : Sg} {T : List Ent} {H : Hp} (s : State σ ε T H) : ∀ l : List Nat, State σ (wipeS l ε) T H
  | [] => s
  | i :: r => (s.wipes r).wipe1 i
theorem wipe_at {σ : L2.St} {j : Nat} : ∀ {l : List Nat}, j ∉ l → (wipe σ l)[j]? = σ[j]?
  | [], _ => rfl
  | i :: r, h => by
    simp only [List.mem_cons, not_or] at h
    unfold wipe
    rw [List.getElem?_set_ne (Ne.symm h.1), wipe_at h.2]
theorem wipe_in {σ : L2.St} {j : Nat} : ∀ {l : List Nat}, j ∈ l → j < σ.length → (wipe σ l)[j]? = some none
  | i :: r, h, hl => by
    unfold wipe
    by_cases hj : i = j
    · subst hj
      rw [List.getElem?_set_self (by rw [wipe_length]; exact hl)]
    · rw [List.getElem?_set_ne hj]
      exact wipe_in ((List.mem_cons.mp h).resolve_left (Ne.symm hj)) hl
theorem wipe_eq {σ σ' : L2.St} {l : List Nat} (hl : σ'.length = σ.length) (k : ∀ j : Nat, j ∉ l → σ'[j]? = σ[j]?) : wipe σ' l = wipe σ l := by
  apply List.ext_getElem?
  intro j
  by_cases hj : j ∈ l
  · by_cases hlt : j < σ.length
    · rw [wipe_in hj hlt, wipe_in hj (by omega)]
    · rw [List.getElem?_eq_none (by rw [wipe_length]; omega), List.getElem?_eq_none (by rw [wipe_length]; omega)]
  · rw [wipe_at hj, wipe_at hj, k j hj]
/-- wiped in the slots: what stands there does not matter -/
theorem State.blkσ {σ σ' : L2.St} {ε : Sg} {T : List Ent} {H : Hp} {l : List Nat} (s : State σ (wipeS l ε) T H) (hl : σ'.length = σ.length) (k : ∀ j : Nat, j ∉ l → σ'[j]? = σ[j]?) : State σ' (wipeS l ε) T H :=
  s.off hl fun j => by
    by_cases hj : j ∈ l
    · by_cases hlt : j < ε.length
      · exact .inr (wipeS_at hj hlt)
      · have : σ.length = ε.length := by rw [s.len, wipeS_len]
        exact .inl (by rw [List.getElem?_eq_none (by omega), List.getElem?_eq_none (by omega)])
    · exact .inl (k j hj)
theorem Good.blk {T : Tb} {cl : Cl} {B : List Str} {k : Nat} {W : WX} {c : Ck} {X : Cx} (G : Good T cl B k W c X) (s : Shared) (H : Hp) (scope : Scope) (C : Addr) (cells : List (Str × Addr)) (fp : List Addr) :
    Good T cl B k (fun _ _ _ _ => False) ⟨c.N, relS scope c.sc, fun x => scope.names.lookup x == some .cell, c.kw⟩ (X.blk s H scope (compEnvC scope cells C X.env) fp) where
  n := G.n
  nd := G.nd
  sc := by
    show relS scope X.env.scope = _
    rw [G.sc]
  fx := rfl
  calm := G.calm
  rm := G.rm
  gd := G.gd
  sys := G.sys
  tk := fun _ _ ⟨_, _, _, _, _, _, _, _, _, _, _, _, _, _, _, _, w⟩ => w.elim
  fr := G.fr
  fn := G.fn
end Kr

set_option Elab.async false
set_option linter.all false
set_option maxRecDepth 100000
set_option maxHeartbeats 1000000
namespace Kr
open PySem PySem.Spec PyProof.Rows L2
abbrev W0 : WX := fun _ _ _ _ => False
/-- one turn of a comprehension -/
def turnC (Γ : List Nat) (own : List Nat) (t : TG) (ft : Sg → R Bool) (fe : Sg → R EV) : D → Sg → R (Option (Nat × D)) := fun d ε' => ofO (setTG Γ t d ε') fun ε2 => (ft ε2).bind fun b ε3 => if b = true then (fe ε3).bind fun y ε4 => ofO (esc ε4 y) fun (m, r, ε5) => .ok (some (m, r)) (wipeS own ε5) else .ok none (wipeS own ε3)
theorem compL_ok {F : D → Sg → R (Option (Nat × D))} {n : Nat} {σ : L2.St} {T : List Ent} {cl : Cl} {W : WX} {P : List D → Sg → Prop} : ∀ {ds acc : List D} {ε : Sg}, Rd cl σ T W (compL F n ds acc ε) P → ∃ a ε', compL F n ds acc ε = .ok a ε' ∧ P a ε'
  | [], acc, ε, h => ⟨acc, ε, rfl, h⟩
  | d :: ds, acc, ε, h => by
    simp only [compL] at h ⊢
    cases q : F d ε with
    | st => rw [q] at h; exact h.elim
    | ex c d' ε' => rw [q] at h; exact h.elim
    | ok o ε' =>
      rw [q] at h
      cases o with
      | none => exact compL_ok (ds := ds) h
      | some p =>
        obtain ⟨m, e'⟩ := p
        simp only at h ⊢
        by_cases hc : n ≤ m ∧ acc.length < sizeLine
        · rw [if_pos hc] at h ⊢
          exact compL_ok (ds := ds) h
        · rw [if_neg hc] at h
          exact h.elim
theorem rd_ok {α : Type} {cl : Cl} {σ : L2.St} {T : List Ent} {W : WX} {r : R α} {a : α} {ε : Sg} {P : α → Sg → Prop} (e : r = .ok a ε) (h : P a ε) : Rd cl σ T W r P := by rw [e]; exact h
section
variable {X : Cx} {Γ : List Nat} {cl : Cl} {W : WX} {σ : L2.St} {H : Hp} {Q : VK} {n : Nat} {t : TG} {fi : Sg → R (List D)} {ft : Sg → R Bool} {fe : Sg → R EV} {own : List Nat}
theorem bind_ok {α β : Type} {r : R α} {f : α → Sg → R β} {b : β} {ε : Sg} (h : r.bind f = .ok b ε) : ∃ a ε1, r = .ok a ε1 ∧ f a ε1 = .ok b ε := by
  cases r with
  | st => cases h
  | ex c d e => cases h
  | ok a ε1 => exact ⟨a, ε1, rfl, h⟩
theorem ofO_ok {α β : Type} {o : Option α} {f : α → R β} {b : β} {ε : Sg} (h : ofO o f = .ok b ε) : ∃ a, o = some a ∧ f a = .ok b ε := by
  cases o with
  | none => cases h
  | some a => exact ⟨a, rfl, h⟩
theorem lc_ok (hsub : ∀ j ∈ tgs t, j ∈ own) (h : tE cl W (fun ε => (fi ε).bind fun ds ε1 => (compL (turnC Γ own t ft fe) n ds [] (wipeS own ε1)).bind fun acc ε2 => .ok (.dat (n + 1) (.list acc)) ε2) σ H Q) : tLc (tI cl W fi) (gT Γ t) (tT cl W0 ft) (tE cl W0 fe) own σ H Q := by
  obtain ⟨ε, T, s, r⟩ := h
  refine ⟨ε, T, s, r.bind.imp fun ds ε1 r J M H1 hw s1 D hD => ?_⟩
  obtain ⟨aF, εF, eF, rF⟩ := compL_ok r.bind
  have PF : PostE σ T Q (.dat (n + 1) (.list aF)) εF := rF
  refine ⟨fun i m H => m = ds.length - i ∧ i ≤ ds.length ∧ ∃ ε' acc, State (wipe σ own) (wipeS own ε') ((.ref D, n + 1, .list acc) :: (M ++ T)) H ∧ compL (turnC Γ own t ft fe) n (ds.drop i) acc (wipeS own ε') = .ok aF εF, ⟨_, rfl, Nat.zero_le _, ε1, [], ?_, by simpa using eF⟩, ?_⟩
  · have s2 : State σ (wipeS own ε1) ((.ref D, n + 1, .list []) :: (M ++ T)) (L2.upd H1 D (.lst [])) := State.newL (n := n) (vs := []) (ds := []) (T := M ++ T) (s1.wipes own) rfl hD
    exact s2.blkσ (wipe_length _ _) fun j hj => wipe_at hj
  rintro i m H2 ⟨rfl, hi, ε', acc, s2, e2⟩
  have sM : State (wipe σ own) (wipeS own ε') (M ++ ((.ref D, n + 1, .list acc) :: T)) H2 := s2.permT List.perm_middle.symm
  obtain ⟨w1, w2⟩ := hw i _ _ _ _ sM
  by_cases hlt : i < ds.length
  · obtain ⟨hgo, hy⟩ := w1 ds[i] (List.getElem?_eq_getElem hlt)
    rw [List.drop_eq_getElem_cons hlt, compL] at e2
    refine .inr ⟨hgo, fun H' => ∃ ε' acc, State (wipe σ own) (wipeS own ε') ((.ref D, n + 1, .list acc) :: (M ++ T)) H' ∧ compL (turnC Γ own t ft fe) n (ds.drop (i + 1)) acc (wipeS own ε') = .ok aF εF, fun H' ⟨ε', acc, p1, p2⟩ => ⟨_, by omega, rfl, hlt, ε', acc, p1, p2⟩, fun x H3 y => ?_⟩
    have s3 := hy x H3 y
    cases q : turnC Γ own t ft fe ds[i] (wipeS own ε') with
    | st => rw [q] at e2; cases e2
    | ex c d e => rw [q] at e2; cases e2
    | ok o εo =>
      rw [q] at e2
      obtain ⟨ε2, q1, q⟩ := ofO_ok q
      obtain ⟨b, ε3, q2, q⟩ := bind_ok q
      refine ⟨_, _, _, ε2, s3, q1, fun σ2 nr s4 => ?_⟩
      have ag : ∀ j : Nat, j ∉ own → σ2[j]? = (wipe σ own)[j]? := fun j hj => nr.2 j (.inr fun z => hj (hsub j z))
      have back : ∀ {ε5 : Sg} {T5 : List Ent} {H5 : Hp}, State σ2 ε5 T5 H5 → State (wipe σ own) (wipeS own ε5) T5 H5 := fun s => (s.wipes own).blkσ nr.1.symm fun j hj => (ag j hj).symm
      refine ⟨(wipe_eq nr.1 ag).trans ?_, ε2, M ++ ((.ref D, n + 1, .list acc) :: T), s4, rd_ok q2 fun H4 s5 => ?_⟩
      · exact wipe_eq (wipe_length _ _) fun j hj => wipe_at hj
      cases b with
      | false =>
        rw [if_neg Bool.false_ne_true] at q
        cases q
        exact ⟨ε3, acc, (back s5).permT List.perm_middle, e2⟩
      | true =>
        rw [if_pos rfl] at q
        obtain ⟨v, ε4, q3, q⟩ := bind_ok q
        obtain ⟨⟨mm, r, ε5⟩, q4, q⟩ := ofO_ok q
        cases q
        simp only at e2
        by_cases hc : n ≤ mm ∧ acc.length < sizeLine
        · rw [if_pos hc] at e2
          refine ⟨ε3, M ++ ((.ref D, n + 1, .list acc) :: T), s5, rd_ok q3 fun H6 z s6 l6 => ?_⟩
          have s7 : State σ2 ε5 ((z, n, r) :: (M ++ ((.ref D, n + 1, .list acc) :: T))) H6 := (s6.esc l6 q4).weak hc.1
          have s8 : State σ2 ε5 ((.ref D, n + 1, .list acc) :: ([(z, n, r)] ++ (M ++ T))) H6 := s7.permT (by
            refine (List.Perm.cons _ List.perm_middle).trans ?_
            exact List.Perm.swap _ _ _)
          obtain ⟨a, vs, ea, ho, hlen⟩ := s8.openL
          cases ea
          refine ⟨vs, ho, by rw [hlen]; exact hc.2, ε5, acc ++ [r], ?_, e2⟩
          have s9 : State σ2 ε5 ((.ref D, n + 1, .list (acc ++ [r])) :: ([] ++ (M ++ T))) (L2.upd H6 D (.lst (vs ++ [z]))) := State.reL (Z := [(z, n, r)]) (M := []) s8 ho (by simp [hlen]) (by
            rw [entsOf_app hlen]
            exact List.perm_append_comm)
          exact back s9
        · rw [if_neg hc] at e2
          cases e2
  · have e : i = ds.length := by omega
    subst e
    rw [List.drop_length, compL] at e2
    cases e2
    refine .inl ⟨w2 (by simp), PF _ _ ?_ trivial⟩
    have s3 : State σ (wipeS own ε') ((.ref D, n + 1, .list aF) :: (M ++ T)) H2 := s2.blkσ (wipe_length _ _).symm fun j hj => (wipe_at hj).symm
    exact State.drop2 (M := M) s3
end
section
variable {T : Tb} {cl : Cl} {B : List Str} {k : Nat} {W : WX} {c : Ck} {X : Cx} {Γ : List Nat} {n : Nat} {t : TG} {fi : Sg → R (List D)} {ft : Sg → R Bool} {fe : Sg → R EV} {own : List (Str × Nat)} {elt tg iter : Expr} {ifs : List Expr} {scope : Scope} {pos : Pos}
def Ck.blk (c : Ck) (scope : Scope) : Ck := ⟨c.N, relS scope c.sc, fun x => scope.names.lookup x == some .cell, c.kw⟩
theorem notSet_ok {e : Expr} (h : ∀ a b p, e ≠ .Set a b p) {env : Env} : ∀ x, foldedSetIterable e env x = pure x := fun x => by
  cases e <;> first | rfl | exact absurd rfl (h _ _ _)
theorem PTs.mono {ifs : List Expr} {t t' : TT} (h : PTs X ifs t) (m : ∀ σ H Q, t' σ H Q → t σ H Q) : PTs X ifs t' := ⟨fun pins s σ H Q I q => h.run pins s σ H Q I (m σ H Q q)⟩
theorem ts_nil : PTs X [] (tT cl W fun ε => .ok true ε) := PTs.mono pts_nil fun σ H Q ⟨ε, T, s, r⟩ => r H s
theorem e_comp (G : Good T cl B k W c X) (hi : PI X tg iter (tI cl W fi)) (ok : BlkOk c.N c.sc scope own) (hg : ∀ X', Good T cl B k W0 (c.blk scope) X' → PG X' tg (gT Γ t)) (ht : ∀ X', Good T cl B k W0 (c.blk scope) X' → PTs X' ifs (tT cl W0 ft))
    (he : ∀ X', Good T cl B k W0 (c.blk scope) X' → PE X' elt (tE cl W0 fe)) (hs : ∀ a b p, iter ≠ .Set a b p) (hsub : ∀ j ∈ tgs t, j ∈ own.map (·.2)) :
    PE X (.ListComp elt [⟨tg, iter, ifs, 0⟩] scope pos) (tE cl W fun ε => (fi ε).bind fun ds ε1 => (compL (turnC Γ (own.map (·.2)) t ft fe) n ds [] (wipeS (own.map (·.2)) ε1)).bind fun acc ε2 => .ok (.dat (n + 1) (.list acc)) ε2) :=
  PE.mono (pe_lc G.calm (by rw [G.n]; exact G.nd) hi (by rw [G.n, G.sc]; exact ok) (fun s H C cells fp => hg _ (G.blk s H scope C cells fp)) (fun s H C cells fp => ht _ (G.blk s H scope C cells fp)) (fun s H C cells fp => he _ (G.blk s H scope C cells fp)) (notSet_ok hs)) fun σ H Q h => lc_ok hsub h
end
end Kr

set_option Elab.async false
set_option linter.all false
set_option maxRecDepth 100000
set_option maxHeartbeats 1000000
namespace Kr
open PySem PySem.Spec PyProof.Rows L2
section
variable {X : Cx} {cl : Cl} {W : WX} {σ : L2.St} {ε : Sg} {T M : List Ent} {H H' : Hp} {x y : V} {n m i : Nat} {d e : D} {v u : EV} {Q : VK} {a b c : Expr} {pos p : Pos} {f g h : Sg → R EV} {F : Sg → R (List D)} {kws : List Keyword} {nm : Option Str}
theorem PK.mono {e : List Keyword} {t t' : TA} (h : PK X e t) (m : ∀ σ H Q, t' σ H Q → t σ H Q) : PK X e t' := ⟨fun pos pins s σ H Q I q => h.run pos pins s σ H Q I (m σ H Q q)⟩
theorem kk_nil : PK X [] (tL cl W n fun ε => .ok [] ε) := PK.mono pk_nil fun σ H Q ⟨ε, T, s, r⟩ => r H [] rfl s
theorem kk_cons (ha : PE X a (tE cl W f)) (hr : PK X kws (tL cl W n F)) : PK X (⟨nm, a, p⟩ :: kws) (tL cl W n fun ε => (f ε).bind fun x ε1 => ofO (esc ε1 x) fun (m, d, ε2) => if n ≤ m then (F ε2).bind fun ds ε3 => .ok (d :: ds) ε3 else .st) :=
  PK.mono (pk_cons ha hr) fun σ H Q h => tE.lpp h
theorem kw_names {env : Env} : ∀ kws : List Keyword, (backToKw pos (keywordEach kws env)).filterMap (·.1) = kws.filterMap (·.arg)
  | [] => rfl
  | ⟨none, e, p⟩ :: r => kw_names (env := env) r
  | ⟨some n, e, p⟩ :: r => congrArg (n :: ·) (kw_names (env := env) r)
theorem kw_all {env : Env} : ∀ {kws : List Keyword}, kws.all (fun k => k.arg.isSome) = true → (backToKw pos (keywordEach kws env)).all (·.1.isSome) = true
  | [], _ => rfl
  | ⟨nm, e, p⟩ :: r, h => by
    simp only [List.all_cons, Bool.and_eq_true] at h
    exact Bool.and_eq_true_iff.mpr ⟨h.1, kw_all (env := env) h.2⟩
theorem kw_none {env : Env} {kws : List Keyword} (h : kws.all (fun k => k.arg.isSome) = true) : (backToKw pos (keywordEach kws env)).any (·.1.isNone) = false := by
  have := kw_all (pos := pos) (env := env) h
  rw [Bool.eq_false_iff]
  intro q
  obtain ⟨x, hx, hn⟩ := List.any_eq_true.mp q
  have h2 := List.all_eq_true.mp this x hx
  rw [Option.isNone_iff_eq_none] at hn
  rw [hn] at h2
  cases h2
theorem permG_len {α : Type} : ∀ {js : List Nat} {l z : List α}, permG js l = some z → z.length = js.length
  | [], _, _, h => by cases h; rfl
  | j :: js, l, z, h => by
    simp only [permG] at h
    obtain ⟨a, _, h⟩ := Option.bind_eq_some_iff.mp h
    obtain ⟨z', h', rfl⟩ := Option.map_eq_some_iff.mp h
    simp [permG_len h']
theorem permG_vals {vs : List V} {us : List Value} (r : Vals vs us) : ∀ {js : List Nat} {zs : List Value}, permG js us = some zs → ∃ ws, permG js vs = some ws ∧ Vals ws zs
  | [], _, h => by cases h; exact ⟨[], rfl, .nil⟩
  | j :: js, zs, h => by
    simp only [permG] at h
    obtain ⟨u, hu, h⟩ := Option.bind_eq_some_iff.mp h
    obtain ⟨z', h', rfl⟩ := Option.map_eq_some_iff.mp h
    obtain ⟨ws, h1, h2⟩ := permG_vals r h'
    have hl := r.length
    have hj : j < vs.length := by rw [hl]; exact (List.getElem?_eq_some_iff.mp hu).1
    obtain ⟨u', hu', ru⟩ := r.get (List.getElem?_eq_getElem hj)
    rw [hu] at hu'
    cases hu'
    exact ⟨vs[j] :: ws, by simp [permG, h1, List.getElem?_eq_getElem hj], .cons ru h2⟩
theorem State.perms {vs : List V} {ds : List D} (s : State σ ε (entsOf 0 vs ds ++ T) H) : ∀ {js : List Nat} {ws : List V} {es : List D}, permG js vs = some ws → permG js ds = some es → State σ ε (entsOf 0 ws es ++ (entsOf 0 vs ds ++ T)) H
  | [], ws, es, h1, h2 => by cases h1; cases h2; exact s
  | j :: js, ws, es, h1, h2 => by
    simp only [permG] at h1 h2
    obtain ⟨x, hx, h1⟩ := Option.bind_eq_some_iff.mp h1
    obtain ⟨ws', h1', rfl⟩ := Option.map_eq_some_iff.mp h1
    obtain ⟨d, hd, h2⟩ := Option.bind_eq_some_iff.mp h2
    obtain ⟨es', h2', rfl⟩ := Option.map_eq_some_iff.mp h2
    have s1 := s.perms h1' h2'
    have s2 := s1.permT (T' := entsOf 0 vs ds ++ (entsOf 0 ws' es' ++ T)) (by
      rw [← List.append_assoc, ← List.append_assoc]; exact List.Perm.append_right _ List.perm_append_comm)
    obtain ⟨l1, l2, hl⟩ := List.append_of_mem (ents_at (n := 0) hx hd)
    rw [hl] at s2
    have s3 : State σ ε ((x, 0, d) :: (l1 ++ l2 ++ (entsOf 0 ws' es' ++ T))) H := s2.permT (by
      simp only [List.append_assoc, List.cons_append]; exact List.perm_middle)
    have s4 := s3.dup
    refine s4.permT ?_
    rw [hl]
    show ((x, 0, d) :: (x, 0, d) :: (l1 ++ l2 ++ (entsOf 0 ws' es' ++ T))).Perm ((x, 0, d) :: (entsOf 0 ws' es' ++ (l1 ++ (x, 0, d) :: l2 ++ T)))
    refine List.Perm.cons _ ?_
    have p1 : (entsOf 0 ws' es' ++ (l1 ++ (x, 0, d) :: l2 ++ T)).Perm ((x, 0, d) :: (entsOf 0 ws' es' ++ (l1 ++ l2 ++ T))) := by
      refine List.Perm.trans (List.Perm.append_left _ ?_) List.perm_middle
      simp only [List.append_assoc, List.cons_append]
      exact List.perm_middle
    refine List.Perm.trans ?_ p1.symm
    refine List.Perm.cons _ ?_
    rw [← List.append_assoc, ← List.append_assoc (entsOf 0 ws' es')]
    exact List.Perm.append_right _ List.perm_append_comm
theorem argE_sh : ∀ {ms : List PM} {vs : List V} {ds : List D}, allSh ms = true → vs.length = ms.length → ds.length = ms.length → argE ms vs ds = entsOf 0 vs ds
  | [], [], [], _, _, _ => rfl
  | [], _ :: _, _, _, h, _ => by simp at h
  | [], [], _ :: _, _, _, h => by simp at h
  | _ :: _, [], _, _, h, _ => by simp at h
  | _ :: _, _ :: _, [], _, _, h => by simp at h
  | m :: ms, v :: vs, d :: ds, h, h1, h2 => by
    cases m <;> simp only [allSh] at h <;> first | (cases h; done) | skip
    show (v, 0, d) :: argE ms vs ds = (v, 0, d) :: entsOf 0 vs ds
    rw [argE_sh h (by simpa using h1) (by simpa using h2)]
theorem ioE_sh : ∀ {ms : List PM} {vs : List V} {io : List D}, allSh ms = true → ioE ms vs io = []
  | [], _, _, _ => by simp [ioE]
  | .sh :: ms, [], _, h => by simp [ioE]
  | .sh :: ms, v :: vs, io, h => by
    have h2 : allSh ms = true := h
    rw [ioE]
    exact ioE_sh (ms := ms) h2
  | .own n :: ms, _, _, h => by cases h
  | .io n :: ms, _, _, h => by cases h
theorem Rd.imp2 {α : Type} {cl : Cl} {σ : L2.St} {T : List Ent} {W : WX} {r : R α} {P P' : α → Sg → Prop} (h : Rd cl σ T W r P) (k : ∀ a ε, r = .ok a ε → P a ε → P' a ε) : Rd cl σ T W r P' := by
  cases r with
  | st => exact h
  | ok a ε => exact k a ε rfl h
  | ex c d ε => exact h
/-- the callee's promise, from the arguments by place and by name -/
theorem callk_ok {ms : List PM} {call : List D → Option CRes} {js : List Nat} {ds : List D} {vs ws : List V} (s : State σ ε (entsOf 0 vs ds ++ T) H) (hl : vs.length = ds.length) (hw : permG js vs = some ws)  (hjl : js.length = ms.length)
    (r : Rd cl σ T W (if allSh ms = true then ofO (permG js ds) fun ds' => ofO (call ds') fun r => match r with
      | .ret n d [] => .ok (.dat n d) ε
      | .ex c d [] => .ex c d ε
      | _ => .st else .st) (PostE σ T Q)) : spF cl ms call ws H Q (WE W σ) := by
  obtain ⟨hs, r⟩ := r.ite
  obtain ⟨es, he, r⟩ := r.ofO
  obtain ⟨c, hc, r⟩ := r.ofO
  have l1 := permG_len hw
  have l2 := permG_len he
  have s1 := (s.perms hw he).permT (T' := entsOf 0 vs ds ++ (entsOf 0 ws es ++ T)) (by
      rw [← List.append_assoc, ← List.append_assoc]; exact List.Perm.append_right _ List.perm_append_comm)
  obtain ⟨E, a, b⟩ := State.dropN (M := entsOf 0 vs ds) s1
  have p : ∀ M : List Ent, (E ++ (M ++ T)).Perm (M ++ (E ++ T)) := fun M => by
    rw [← List.append_assoc, ← List.append_assoc]
    exact List.Perm.append_right _ List.perm_append_comm
  refine ⟨by omega, es, c, E ++ T, by omega, hc, ?_, ?_⟩
  · rw [argE_sh hs (by omega) (by omega)]
    exact b.perm (p _)
  · cases c with
    | ret n d io =>
      cases io with
      | cons _ _ => exact r.elim
      | nil =>
        intro H' v sp
        rw [ioE_sh hs, List.nil_append] at sp
        exact PostD r _ _ (show State σ ε ((v, n, d) :: T) H' from ⟨E, a, sp.perm List.perm_middle.symm⟩) trivial
    | ex c d io =>
      cases io with
      | cons _ _ => exact r.elim
      | nil =>
        intro H' dd x hx sp
        rw [ioE_sh hs, List.nil_append] at sp
        exact r H' dd x hx ⟨E, a, sp.perm List.perm_middle.symm⟩
theorem FnG.callK {CX : CXT} {k : Nat} {f : Addr} {fd : FuncData} {ps : List Str} {sp : Sp} {E : L2.St → XK} {pins : List (Addr × Obj)} {σ : L2.St} {H : Hp} {s : Shared} {Q : VK} {us ws zs : List Value} {vs : List V} {ks : List Str} (F : FnG X.prog X.w X.K X.mg X.base CX k f fd ps sp) (hr : Room k X.A) (hg : X.A.guards = some [])
    (hb : BindsTo s fd ⟨us, ks.zip ws⟩ (ps.zip zs)) (hx : PassesAt CX X σ (E σ)) (I : Inv X pins σ H s) (r : Vals vs zs) (h : sp vs H Q (E σ)) : wpAny (model X.prog X.w) X.A (PySem.call (.ref f) us (ks.zip ws)) (EP X pins σ Q) X.xe s := by
  refine wpAny_call (codeAny_mono (F.run X.A X.stack s H ⟨us, ks.zip ws⟩ zs vs Q (E σ) hr hg I.env0 hb r h) fun r s' hq => ?_)
  match r, hq with
  | .error e, hq => exact hx pins H s e s' I hq
  | .ok (.ret u), hq => exact I.after hq
/-- f(e, .., k = v, ..) -/
theorem e_callk {TT : Tb} {B : List Str} {k : Nat} {ck : Ck} (G : Good TT cl B k W ck X) {nm : String} {fd : Fd} (hT : TT nm = some fd) (gl : Gl X (nm : Str)) (hdb : ((nm : Str) == ("__debug__" : Str)) = false) {js : List Nat} {es : List Expr} {kws : List Keyword} {F1 F2 : Sg → R (List D)} (hs : es.all notSt = true) (hk : kws.all (fun k => k.arg.isSome) = true)
    (hm : (nm, es.length, kws.filterMap (·.arg), js) ∈ ck.kw) (hl1 : ∀ ε ds ε', F1 ε = .ok ds ε' → ds.length = es.length) (hl2 : ∀ ε ds ε', F2 ε = .ok ds ε' → ds.length = kws.length) (hnil : es = [] → ∀ ε, F1 ε = .ok [] ε) (ha : PA X es (tL cl W 0 F1)) (hb : PK X kws (tL cl W 0 F2)) :
    PE X (.Call (.Name (nm : Str) p) es kws pos) (tE cl W fun ε => (F1 ε).bind fun ds ε1 => (F2 ε1).bind fun ds2 ε2 => if allSh fd.pm = true then ofO (permG js (ds ++ ds2)) fun ds' => ofO (callK TT k nm ds') fun r => match r with
      | .ret n d [] => .ok (.dat n d) ε2
      | .ex c d [] => .ex c d ε2
      | _ => .st else .st) := by
  obtain ⟨fa, fo, ps, hmg, hkp, _, FG, hkw⟩ := G.fn nm fd hT
  have kb := hkw _ hm rfl
  refine ⟨fun pins s σ H Q I ⟨ε, T, st, r⟩ => wpAny_Call_Name_kw (ld_glob I gl hmg ?_ hdb)⟩
  have hplain : ((backTo pos (starEach es X.env)).any (·.1) || (backToKw pos (keywordEach kws X.env)).any (·.1.isNone)) = false := by rw [noStars hs, kw_none hk]; rfl
  have fin : ∀ {us ws : List Value} {s2 : Shared} {vs zs : List V} {ds ds2 : List D} {ε2 : Sg} {H2 : Hp}, us.length = es.length → ws.length = (kws.filterMap (·.arg)).length → Inv X pins σ H2 s2 → Vals vs us → Vals zs ws → vs.length = ds.length → zs.length = ds2.length → State σ ε2 (entsOf 0 zs ds2 ++ (entsOf 0 vs ds ++ T)) H2 →
      Rd cl σ T W (if allSh fd.pm = true then ofO (permG js (ds ++ ds2)) fun ds' => ofO (callK TT k nm ds') fun r => match r with
      | .ret n d [] => .ok (.dat n d) ε2
      | .ex c d [] => .ex c d ε2
      | _ => .st else .st) (PostE σ T Q) → X.K.In s2.heap ∧ wpAny (model X.prog X.w) X.A (PySem.call (.ref fa) us (((backToKw pos (keywordEach kws X.env)).filterMap (·.1)).zip ws)) (EP X pins σ Q) X.xe s2 := by
    intro us ws s2 vs zs ds ds2 ε2 H2 lu lw I2 rv rz l1 l2 s3 r
    refine ⟨I2.kIn, ?_⟩
    rw [kw_names]
    obtain ⟨xs, hx, bt⟩ := kb s2 us ws I2.kIn lu lw
    obtain ⟨ws', hw, rw'⟩ := permG_vals (rv.append rz) hx
    have s4 : State σ ε2 (entsOf 0 (vs ++ zs) (ds ++ ds2) ++ T) H2 := s3.permT (by
      rw [entsOf_app l1, ← List.append_assoc]
      exact List.Perm.append_right _ List.perm_append_comm)
    have jl : js.length = fd.pm.length := by
      obtain ⟨hs, r2⟩ := r.ite
      obtain ⟨es', he, r3⟩ := r2.ofO
      obtain ⟨c, hc, r4⟩ := r3.ofO
      have l3 := permG_len he
      cases k with
      | zero => cases hc
      | succ k =>
        rw [show callK TT (k + 1) nm es' = (TT nm).bind fun fd => runF (orc TT k) fd es' from rfl, hT] at hc
        have hc2 : runF (orc TT k) fd es' = some c := hc
        unfold runF at hc2
        split at hc2
        · rename_i hl
          omega
        · cases hc2
    exact FnG.callK FG G.rm G.gd bt (passAt G.tk σ) I2 rw' (callk_ok s4 (by simp [l1, l2]) hw jl r)
  have ln : (kws.filterMap (·.arg)).length = kws.length := by
    clear hm hb hl2 hplain fin kb
    induction kws with
    | nil => rfl
    | cons q r ih =>
      simp only [List.all_cons, Bool.and_eq_true] at hk
      obtain ⟨nm, e, p⟩ := q
      cases nm with
      | none => cases hk.1
      | some n => simp [ih hk.2]
  cases es with
  | nil =>
    refine PySem.W.callWith_KW0 (h₀ := X.base) I.ok.mod.kin hkp (kw_all hk) ?_ hplain
    have r1 := r
    simp only [hnil rfl] at r1
    have h2 : tL cl W 0 F2 σ H (fun zs H2 => ∃ ε2 ds2, zs.length = ds2.length ∧ ds2.length = kws.length ∧ State σ ε2 (entsOf 0 zs ds2 ++ T) H2 ∧ Rd cl σ T W (if allSh fd.pm = true then ofO (permG js ([] ++ ds2)) fun ds' => ofO (callK TT k nm ds') fun r => match r with
      | .ret n d [] => .ok (.dat n d) ε2
      | .ex c d [] => .ex c d ε2
      | _ => .st else .st) (PostE σ T Q)) := ⟨ε, T, st, (Rd.bind (P := PostE σ T Q) (f := fun ds2 ε2 => if allSh fd.pm = true then ofO (permG js ([] ++ ds2)) fun ds' => ofO (callK TT k nm ds') fun r => match r with
      | .ret n d [] => (.ok (EV.dat n d) ε2 : R EV)
      | .ex c d [] => .ex c d ε2
      | _ => .st else .st) r1).imp2 fun ds2 ε2 eq q H2 vs hl s2 => ⟨ε2, ds2, hl, hl2 _ _ _ eq, s2, q⟩⟩
    refine thn (hb.run pos pins s σ H _ I h2) fun ws s2 ⟨zs, H2, I2, rz, ε2, ds2, l1, l2, s3, r3⟩ => ?_
    exact fin (us := []) (vs := []) (ds := []) rfl (by rw [← rz.length, l1, l2, ln]) I2 .nil rz rfl l1 s3 r3
  | cons e es =>
    have hs' := hs
    simp only [List.all_cons, Bool.and_eq_true] at hs'
    refine PySem.W.callWith_KW (h₀ := X.base) I.ok.mod.kin hkp (kw_all hk) ?_ hplain (star_cons hs'.1)
    have h1 : tL cl W 0 F1 σ H (fun vs H1 => ∃ ε1 ds, vs.length = ds.length ∧ ds.length = (e :: es).length ∧ State σ ε1 (entsOf 0 vs ds ++ T) H1 ∧ Rd cl σ T W ((F2 ε1).bind fun ds2 ε2 => if allSh fd.pm = true then ofO (permG js (ds ++ ds2)) fun ds' => ofO (callK TT k nm ds') fun r => match r with
      | .ret n d [] => .ok (.dat n d) ε2
      | .ex c d [] => .ex c d ε2
      | _ => .st else .st) (PostE σ T Q)) := ⟨ε, T, st, r.bind.imp2 fun ds ε1 eq q H1 vs hl s1 => ⟨ε1, ds, hl, hl1 _ _ _ eq, s1, q⟩⟩
    refine thn (ha.run pos pins s σ H _ I h1) fun us s1 ⟨vs, H1, I1, rv, ε1, ds, l1, l2, s2, r2⟩ => ?_
    have h2 : tL cl W 0 F2 σ H1 (fun zs H2 => ∃ ε2 ds2, zs.length = ds2.length ∧ ds2.length = kws.length ∧ State σ ε2 (entsOf 0 zs ds2 ++ (entsOf 0 vs ds ++ T)) H2 ∧ Rd cl σ T W (if allSh fd.pm = true then ofO (permG js (ds ++ ds2)) fun ds' => ofO (callK TT k nm ds') fun r => match r with
      | .ret n d [] => .ok (.dat n d) ε2
      | .ex c d [] => .ex c d ε2
      | _ => .st else .st) (PostE σ T Q)) := ⟨ε1, entsOf 0 vs ds ++ T, s2, (Rd.more r2.bind).imp2 fun ds2 ε2 eq q H2 zs hl s3 => ⟨ε2, ds2, hl, hl2 _ _ _ eq, s3, q⟩⟩
    refine thn (hb.run pos pins s1 σ H1 _ I1 h2) fun ws s2' ⟨zs, H2, I2, rz, ε2, ds2, l3, l4, s3, r3⟩ => ?_
    exact fin (us := us) (by rw [← rv.length, l1, l2]) (by rw [← rz.length, l3, l4, ln]) I2 rv rz l1 l3 s3 r3
end
end Kr

set_option Elab.async false
set_option linter.all false
set_option maxRecDepth 100000
set_option maxHeartbeats 1000000
namespace Kr
open PySem PySem.Spec PyProof.Rows L2
/-! ### the text against the small language -/
def varC (c : Ck) (i : Nat) (x : Str) : Bool := decide (c.N[i]? = some x) && (match c.sc.names.lookup x with | some .local => true | some .cell => true | some .free => true | _ => false) && !(x == ("__debug__" : Str)) && !(x == ("__classdict__" : Str))
def glC (c : Ck) (x : Str) : Bool := decide (c.sc.names.lookup x = some .globalImplicit)
def isNm (s : Str) : Expr → Bool
  | .Name x _ => decide (x = s)
  | _ => false
def baseOk : Expr → Bool
  | .Name _ _ => true
  | .Subscript _ _ _ => true
  | .BinOp _ _ _ _ => true
  | .ListComp _ _ _ _ => true
  | _ => false
def plainIxC : Expr → Bool
  | .Slice _ _ _ _ => false
  | _ => true
def notSetC : Expr → Bool
  | .Set _ _ _ => false
  | _ => true
def plainT : Expr → Bool
  | .UnaryOp .Not _ _ => false
  | .BoolOp _ _ _ => false
  | .IfExp _ _ _ _ => false
  | .Compare _ _ _ _ => false
  | _ => true
mutual
def tstOk : Expr → Bool
  | .UnaryOp .Not x _ => tstOk x
  | .BoolOp _ xs _ => tstOks xs
  | .IfExp _ _ _ _ => false
  | _ => true
def tstOks : List Expr → Bool
  | [] => true
  | x :: xs => tstOk x && tstOks xs
end
def isBO : Expr → Bool
  | .BoolOp _ _ _ => true
  | _ => false
def opEq (o : O2) (op : Operator) : Bool := decide (op = opOf o)
def cmpEq (o : OC) (op : CmpOp) : Bool := decide (op = cmpOf o)
def isT : IE → Bool
  | .cst d => (match d with | .bool b => b | _ => false)
  | _ => false
def ownP (c : Ck) (own : List Nat) : List (Str × Nat) := own.map fun i => ((c.N[i]?).getD "", i)
theorem ownP_ix (c : Ck) (own : List Nat) : (ownP c own).map (·.2) = own := by unfold ownP; rw [List.map_map]; exact List.map_id _
section
variable (T : Tb) (B : List Str)
def bC (c : Ck) (x : Str) : Bool := glC c x && decide (x ∈ B)
mutual
def chkTG (c : Ck) : TG → Expr → Bool
  | .name i, .Name x _ => decide (c.N[i]? = some x) && (match c.sc.names.lookup x with | some .local => true | some .cell => c.fx x | _ => false)
  | .tup ts, .Tuple es _ _ => es.all notSt && es.length == ts.len && chkTGs c ts es
  | _, _ => false
def chkTGs (c : Ck) : TGs → List Expr → Bool
  | .nil, [] => true
  | .cons t ts, e :: es => chkTG c t e && chkTGs c ts es
  | _, _ => false
end
mutual
def chkE (c : Ck) : IE → Expr → Bool
  | .var i, a => match a with
    | .Name x _ => varC c i x
    | _ => false
  | .cst d, a => match a with
    | .Constant k _ _ => cstOk d k
    | _ => false
  | .op o a b, e => match e with
    | .BinOp x op y _ => opEq o op && chkE c a x && chkE c b y
    | _ => false
  | .neg a, e => match e with
    | .UnaryOp .USub x _ => chkE c a x
    | _ => false
  | .cmp o a b, e => match e with
    | .Compare x [op] [y] _ => cmpEq o op && !behindInMarks op y && chkE c a x && chkE c b y
    | _ => false
  | .chain o p a b d, e => match e with
    | .Compare x [op, op'] [y, z] _ => cmpEq o op && cmpEq p op' && !lastMarks [op, op'] [y, z] && chkE c a x && chkE c b y && chkE c d z
    | _ => false
  | .chain3 o p q a b d f, e => match e with
    | .Compare x [op, op', op2] [y, z, w] _ => cmpEq o op && cmpEq p op' && cmpEq q op2 && !lastMarks [op, op', op2] [y, z, w] && chkE c a x && chkE c b y && chkE c d z && chkE c f w
    | _ => false
  | .and a b, e => match e with
    | .BoolOp .And [x, y] _ => chkE c a x && chkE c b y
    | .BoolOp .And (x :: y :: z :: r) p => chkE c a x && chkE c b (.BoolOp .And (y :: z :: r) p)
    | _ => false
  | .or a b, e => match e with
    | .BoolOp .Or [x, y] _ => chkE c a x && chkE c b y
    | .BoolOp .Or (x :: y :: z :: r) p => chkE c a x && chkE c b (.BoolOp .Or (y :: z :: r) p)
    | _ => false
  | .not a, e => match e with
    | .UnaryOp .Not x _ => chkE c a x
    | _ => false
  | .ife t a b, e => match e with
    | .IfExp x y z _ => chkE c t x && tstOk x && chkE c a y && chkE c b z
    | _ => false
  | .tup es, e => match e with
    | .Tuple xs _ _ => xs.all notSt && chkEs c es xs
    | _ => false
  | .lst n es, e => match e with
    | .List xs _ => xs.all notSt && chkEs c es xs
    | _ => false
  | .ix a i, e => match e with
    | .Subscript x y _ => plainIxC y && chkE c a x && chkE c i y
    | _ => false
  | .sl a lo hi, e => match e with
    | .Subscript x (.Slice l h none _) _ => chkE c a x && chkP c lo l && chkP c hi h
    | _ => false
  | .rev a, e => match e with
    | .Subscript x (.Slice none none (some (.UnaryOp .USub (.Constant (.int j) _ _) _)) _) _ => decide (j = 1) && chkE c a x
    | _ => false
  | .call f es, e => match e with
    | .Call (.Name x _) xs [] _ => decide (x = (f : Str)) && glC c x && !(x == ("__debug__" : Str)) && (T f).isSome && xs.all notSt && chkEs c es xs
    | _ => false
  | .callk f js es ks, e => match e with
    | .Call (.Name x _) xs kws _ => decide (x = (f : Str)) && glC c x && !(x == ("__debug__" : Str)) && (T f).isSome && xs.all notSt && chkEs c es xs && chkKs c ks kws && decide ((f, xs.length, kws.filterMap (·.arg), js) ∈ c.kw)
    | _ => false
  | .b1 o a, e => match o with
    | .bitlen => (match e with
      | .Call (.Attribute x nm ap) [] [] p => decide (nm = ("bit_length" : Str)) && (ap.endLine == p.line) && baseOk x && chkE c a x
      | _ => false)
    | .lrange => (match e with
      | .Call (.Name x _) [.Call (.Name y _) [z] [] _] [] _ => decide (x = ("list" : Str)) && decide (y = ("range" : Str)) && bC B c x && bC B c y && notSt z && chkE c a z
      | _ => false)
    | .sset => (match e with
      | .Call (.Name x _) [.Call (.Name y _) [z] [] _] [] _ => decide (x = ("sorted" : Str)) && decide (y = ("set" : Str)) && bC B c x && bC B c y && notSt z && chkE c a z
      | _ => false)
    | .lset => (match e with
      | .Call (.Name x _) [.Call (.Name y _) [z] [] _] [] _ => decide (x = ("len" : Str)) && decide (y = ("set" : Str)) && bC B c x && bC B c y && notSt z && chkE c a z
      | _ => false)
    | o => (match n1 o with
      | some (nm, _) => (match e with
        | .Call (.Name x _) [z] [] _ => decide (x = nm) && bC B c x && notSt z && chkE c a z
        | _ => false)
      | none => (match nI o with
        | some (nm, _) => (match e with
          | .Call (.Name x _) [z, .Name y _] [] _ => decide (x = ("isinstance" : Str)) && decide (y = nm) && bC B c x && bC B c y && notSt z && chkE c a z
          | _ => false)
        | none => false))
  | .b2 o a b, e => match o with
    | .max => (match e with
      | .Call (.Name x _) [y, z] [] _ => decide (x = ("max" : Str)) && bC B c x && notSt y && notSt z && chkE c a y && chkE c b z
      | _ => false)
    | .min => (match e with
      | .Call (.Name x _) [y, z] [] _ => decide (x = ("min" : Str)) && bC B c x && notSt y && notSt z && chkE c a y && chkE c b z
      | _ => false)
    | _ => false
  | .mth o a b, e => match o with
    | .index => (match e with
      | .Call (.Attribute x nm ap) [y] [] p => decide (nm = ("index" : Str)) && (ap.endLine == p.line) && baseOk x && notSt y && chkE c a x && chkE c b y
      | _ => false)
    | .count => (match e with
      | .Call (.Attribute x nm ap) [y] [] p => decide (nm = ("count" : Str)) && (ap.endLine == p.line) && baseOk x && notSt y && chkE c a x && chkE c b y
      | _ => false)
    | _ => false
  | .pop i, e => match e with
    | .Call (.Attribute (.Name x _) nm ap) [] [] p => decide (nm = ("pop" : Str)) && (ap.endLine == p.line) && varC c i x
    | _ => false
  | .popAt i a, e => match e with
    | .Call (.Attribute (.Name x _) nm ap) [y] [] p => decide (nm = ("pop" : Str)) && (ap.endLine == p.line) && varC c i x && notSt y && chkE c a y
    | _ => false
  | .comp n own t it q r, e => match e with
    | .ListComp z [⟨tg, iter, ifs, as⟩] scope _ => decide (as = 0) && blkC c.N c.sc scope (ownP c own) && (tgs t).all (fun j => decide (j ∈ own)) && notSetC iter && chkI c it tg iter && chkTG (c.blk scope) t tg && (match ifs with | [] => isT q | [x] => chkE (c.blk scope) q x && tstOk x | _ => false) && chkE (c.blk scope) r z
    | _ => false
  | .dnil, e => match e with
    | .Dict [] [] _ => true
    | _ => false
  | .cn _, e => match e with
    | .Constant .none _ _ => true
    | _ => false
def chkEs (c : Ck) : IEs → List Expr → Bool
  | .nil, [] => true
  | .cons e es, x :: xs => chkE c e x && chkEs c es xs
  | _, _ => false
def chkKs (c : Ck) : IEs → List Keyword → Bool
  | .nil, [] => true
  | .cons e es, ⟨some _, v, _⟩ :: r => chkE c e v && chkKs c es r
  | _, _ => false
def chkP (c : Ck) : IP → Option Expr → Bool
  | .no, none => true
  | .ex e, some x => chkE c e x
  | _, _ => false
def chkI (c : Ck) : II → Expr → Expr → Bool
  | .seq a, _, e => chkE c a e
  | .range1 a, _, e => match e with
    | .Call (.Name x _) [y] [] _ => decide (x = ("range" : Str)) && bC B c x && notSt y && chkE c a y
    | _ => false
  | .range2 a b, _, e => match e with
    | .Call (.Name x _) [y, z] [] _ => decide (x = ("range" : Str)) && bC B c x && notSt y && notSt z && chkE c a y && chkE c b z
    | _ => false
  | .enum a, tg, e => match tg, e with
    | .Tuple _ _ _, .Call (.Name x _) [y] [] _ => decide (x = ("enumerate" : Str)) && bC B c x && notSt y && chkE c a y
    | _, _ => false
  | .zip a b, tg, e => match tg, e with
    | .Tuple _ _ _, .Call (.Name x _) [y, z] [] _ => decide (x = ("zip" : Str)) && bC B c x && notSt y && notSt z && chkE c a y && chkE c b z
    | _, _ => false
end
end
end Kr

set_option Elab.async false
set_option linter.all false
set_option maxRecDepth 100000
set_option maxHeartbeats 1000000
namespace Kr
open PySem PySem.Spec PyProof.Rows L2
section
variable (T : Tb) (cl : Cl) (B : List Str) (k : Nat) (Γ : List Nat)
def OkE (e : IE) : Prop := ∀ (W : WX) (c : Ck) (X : Cx), Good T cl B k W c X → ∀ a, chkE T B c e a = true → PE X a (tE cl W (evalE (orc T k) Γ e))
def OkT (e : IE) : Prop := ∀ (W : WX) (c : Ck) (X : Cx), Good T cl B k W c X → ∀ a, chkE T B c e a = true → tstOk a = true → PT X a (tT cl W fun ε => tstR (evalE (orc T k) Γ e ε)) ∧ (isBO a = true → PW X a (tT cl W fun ε => tstR (evalE (orc T k) Γ e ε)))
def OkB (e : IE) : Prop := OkE T cl B k Γ e ∧ OkT T cl B k Γ e
def OkL (es : IEs) : Prop := ∀ (W : WX) (c : Ck) (X : Cx), Good T cl B k W c X → ∀ xs, chkEs T B c es xs = true → xs.all notSt = true → (∀ n, PA X xs (tL cl W n (evalL (orc T k) Γ n es))) ∧ ∀ ms, PA X xs (tA cl W (evalA (orc T k) Γ es ms))
def OkK (es : IEs) : Prop := ∀ (W : WX) (c : Ck) (X : Cx), Good T cl B k W c X → ∀ xs, chkKs T B c es xs = true → ∀ n, PK X xs (tL cl W n (evalL (orc T k) Γ n es))
def OkLK (es : IEs) : Prop := OkL T cl B k Γ es ∧ OkK T cl B k Γ es
def OkP (e : IP) : Prop := ∀ (W : WX) (c : Ck) (X : Cx), Good T cl B k W c X → ∀ a, chkP T B c e a = true → PO X a (tP cl W (evalP (orc T k) Γ e))
def OkI (e : II) : Prop := ∀ (W : WX) (c : Ck) (X : Cx), Good T cl B k W c X → ∀ tg a, chkI T B c e tg a = true → PI X tg a (tI cl W (evalI (orc T k) Γ e))
end
section
variable {T : Tb} {cl : Cl} {B : List Str} {k : Nat} {Γ : List Nat} {W : WX} {c : Ck} {X : Cx} {x : Str} {i : Nat}
theorem Good.gl (G : Good T cl B k W c X) (h : glC c x = true) : Gl X x := by
  have h := of_decide_eq_true h
  show X.env.scope.names.lookup x = _
  rw [G.sc]; exact h
theorem Good.bl (G : Good T cl B k W c X) (h : bC B c x = true) : Gl X x ∧ X.mg x = none := by
  unfold bC at h
  simp only [Bool.and_eq_true] at h
  exact ⟨G.gl h.1, G.fr x (of_decide_eq_true h.2)⟩
theorem Good.var (G : Good T cl B k W c X) (h : varC c i x = true) : X.N[i]? = some x ∧ Vis X.env.scope x ∧ (x == ("__debug__" : Str)) = false ∧ (x == ("__classdict__" : Str)) = false := by
  unfold varC at h
  simp only [Bool.and_eq_true, Bool.not_eq_true'] at h
  obtain ⟨⟨⟨h1, h2⟩, h3⟩, h4⟩ := h
  refine ⟨by rw [G.n]; exact of_decide_eq_true h1, ?_, h3, h4⟩
  unfold Vis
  rw [G.sc]
  split at h2
  · rename_i q; exact .inl q
  · rename_i q; exact .inr (.inl q)
  · rename_i q; exact .inr (.inr q)
  · cases h2
theorem Good.u65 (G : Good T cl B k W c X) : X.A.units + 65 < cLine := by have := G.rm.un; omega
theorem Good.u64 (G : Good T cl B k W c X) : X.A.units + 64 < cLine := by have := G.rm.un; omega
theorem PE.cg {X : Cx} {a : Expr} {f g : Sg → R EV} (e : ∀ ε, g ε = f ε) (h : PE X a (tE cl W f)) : PE X a (tE cl W g) := by rw [show g = f from funext e]; exact h
theorem plain_tst {a : Expr} (h : plainT a = true) {env : Env} : ∀ whole, isTrue a env whole = (do let v ← whole; standAt a.pos; holding [v] (truthy v)) := fun whole => by
  cases a <;> first | rfl | (cases h; done) | skip
  rename_i op x p
  cases op <;> first | rfl | (cases h; done)
theorem isBO_plain {a : Expr} (h : plainT a = true) : isBO a = true → False := fun q => by cases a <;> first | (cases q; done) | (cases h; done)
/-- a form whose test is its value's truth -/
theorem okPlain {e : IE} (h : OkE T cl B k Γ e) (p : ∀ c a, chkE T B c e a = true → plainT a = true) : OkB T cl B k Γ e :=
  ⟨h, fun W c X G a hc _ => ⟨t_gen (h W c X G a hc) (plain_tst (p c a hc)), fun q => (isBO_plain (p c a hc) q).elim⟩⟩
theorem s_var (i : Nat) : OkB T cl B k Γ (.var i) := okPlain (fun W c X G a h => by
    unfold chkE at h
    split at h
    · obtain ⟨h1, h2, h3, h4⟩ := G.var h
      exact PE.cg (fun ε => by rw [evalE]) (e_var h1 h2 h3 h4)
    · cases h) fun c a h => by
    unfold chkE at h
    split at h
    · rfl
    · cases h
theorem s_cst (d : D) : OkB T cl B k Γ (.cst d) := okPlain (fun W c X G a h => by
    unfold chkE at h
    split at h
    · exact PE.cg (fun ε => by rw [evalE]) (e_cst h)
    · cases h) fun c a h => by
    unfold chkE at h
    split at h
    · rfl
    · cases h
theorem s_cn (n : Nat) : OkB T cl B k Γ (.cn n) := okPlain (fun W c X G a h => by
    unfold chkE at h
    split at h
    · exact PE.cg (fun ε => by rw [evalE]) e_cn
    · cases h) fun c a h => by
    unfold chkE at h
    split at h
    · rfl
    · cases h
theorem s_op {o : O2} {a b : IE} (ha : OkB T cl B k Γ a) (hb : OkB T cl B k Γ b) : OkB T cl B k Γ (.op o a b) := okPlain (fun W c X G e h => by
    unfold chkE at h
    split at h
    · simp only [Bool.and_eq_true] at h
      obtain ⟨⟨h1, h2⟩, h3⟩ := h
      obtain rfl := of_decide_eq_true h1
      exact PE.cg (fun ε => by rw [evalE]) (e_op (ha.1 W c X G _ h2) (hb.1 W c X G _ h3))
    · cases h) fun c a h => by
    unfold chkE at h
    split at h
    · rfl
    · cases h
theorem s_neg {a : IE} (ha : OkB T cl B k Γ a) : OkB T cl B k Γ (.neg a) := okPlain (fun W c X G e h => by
    unfold chkE at h
    split at h
    · exact PE.cg (fun ε => by first | (rw [evalE]; rfl) | rw [evalE]) (e_neg (ha.1 W c X G _ h))
    · cases h) fun c a h => by
    unfold chkE at h
    split at h
    · rfl
    · cases h
theorem s_cmp {o : OC} {a b : IE} (ha : OkB T cl B k Γ a) (hb : OkB T cl B k Γ b) : OkB T cl B k Γ (.cmp o a b) := ⟨(fun W c X G e h => by
    unfold chkE at h
    split at h
    · simp only [Bool.and_eq_true, Bool.not_eq_true'] at h
      obtain ⟨⟨⟨h1, h2⟩, h3⟩, h4⟩ := h
      obtain rfl := of_decide_eq_true h1
      exact PE.cg (fun ε => by rw [evalE]) (e_cmp G.u65 h2 (ha.1 W c X G _ h3) (hb.1 W c X G _ h4))
    · cases h), fun W c X G e h _ => by
    unfold chkE at h
    split at h
    · simp only [Bool.and_eq_true, Bool.not_eq_true'] at h
      obtain ⟨⟨⟨h1, h2⟩, h3⟩, h4⟩ := h
      obtain rfl := of_decide_eq_true h1
      refine ⟨?_, fun q => by cases q⟩
      simp only [evalE]
      exact t_cmp G.u65 h2 (ha.1 W c X G _ h3) (hb.1 W c X G _ h4)
    · cases h⟩
theorem s_chain {o p : OC} {a b d : IE} (ha : OkB T cl B k Γ a) (hb : OkB T cl B k Γ b) (hd : OkB T cl B k Γ d) : OkB T cl B k Γ (.chain o p a b d) := ⟨(fun W c X G e h => by
    unfold chkE at h
    split at h
    · simp only [Bool.and_eq_true, Bool.not_eq_true'] at h
      obtain ⟨⟨⟨⟨⟨h1, h1'⟩, h2⟩, h3⟩, h4⟩, h5⟩ := h
      obtain rfl := of_decide_eq_true h1
      obtain rfl := of_decide_eq_true h1'
      exact PE.cg (fun ε => by rw [evalE]) (e_chain G.u65 h2 (ha.1 W c X G _ h3) (hb.1 W c X G _ h4) (hd.1 W c X G _ h5))
    · cases h), fun W c X G e h _ => by
    unfold chkE at h
    split at h
    · simp only [Bool.and_eq_true, Bool.not_eq_true'] at h
      obtain ⟨⟨⟨⟨⟨h1, h1'⟩, h2⟩, h3⟩, h4⟩, h5⟩ := h
      obtain rfl := of_decide_eq_true h1
      obtain rfl := of_decide_eq_true h1'
      refine ⟨?_, fun q => by cases q⟩
      simp only [evalE]
      exact t_chain G.u65 h2 (ha.1 W c X G _ h3) (hb.1 W c X G _ h4) (hd.1 W c X G _ h5)
    · cases h⟩
theorem s_ch3 {o p q : OC} {a b d f : IE} (ha : OkB T cl B k Γ a) (hb : OkB T cl B k Γ b) (hd : OkB T cl B k Γ d) (hf : OkB T cl B k Γ f) : OkB T cl B k Γ (.chain3 o p q a b d f) := ⟨(fun W c X G e h => by
    unfold chkE at h
    split at h
    · simp only [Bool.and_eq_true, Bool.not_eq_true'] at h
      obtain ⟨⟨⟨⟨⟨⟨⟨h1, h1'⟩, h12⟩, h2⟩, h3⟩, h4⟩, h5⟩, h6⟩ := h
      obtain rfl := of_decide_eq_true h1
      obtain rfl := of_decide_eq_true h1'
      obtain rfl := of_decide_eq_true h12
      exact PE.cg (fun ε => by rw [evalE]) (e_ch3 G.u65 h2 (ha.1 W c X G _ h3) (hb.1 W c X G _ h4) (hd.1 W c X G _ h5) (hf.1 W c X G _ h6))
    · cases h), fun W c X G e h _ => by
    unfold chkE at h
    split at h
    · simp only [Bool.and_eq_true, Bool.not_eq_true'] at h
      obtain ⟨⟨⟨⟨⟨⟨⟨h1, h1'⟩, h12⟩, h2⟩, h3⟩, h4⟩, h5⟩, h6⟩ := h
      obtain rfl := of_decide_eq_true h1
      obtain rfl := of_decide_eq_true h1'
      obtain rfl := of_decide_eq_true h12
      refine ⟨?_, fun q => by cases q⟩
      simp only [evalE]
      exact t_ch3 G.u65 h2 (ha.1 W c X G _ h3) (hb.1 W c X G _ h4) (hd.1 W c X G _ h5) (hf.1 W c X G _ h6)
    · cases h⟩
theorem s_and {a b : IE} (ha : OkB T cl B k Γ a) (hb : OkB T cl B k Γ b) : OkB T cl B k Γ (.and a b) := ⟨(fun W c X G e h => by
    unfold chkE at h
    split at h
    · simp only [Bool.and_eq_true] at h
      exact PE.cg (fun ε => by rw [evalE]) (e_and (ha.1 W c X G _ h.1) (pe_one (hb.1 W c X G _ h.2)))
    · simp only [Bool.and_eq_true] at h
      exact PE.cg (fun ε => by rw [evalE]) (e_and (ha.1 W c X G _ h.1) (hb.1 W c X G _ h.2))
    · cases h), fun W c X G e h ht => by
    unfold chkE at h
    split at h
    · simp only [Bool.and_eq_true] at h
      simp only [tstOk, tstOks, Bool.and_eq_true] at ht
      suffices t : PW X _ _ from ⟨t.pt, fun _ => t⟩
      simp only [evalE]
      exact w_and (ha.2 W c X G _ h.1 ht.1).1 (w_and1 (hb.2 W c X G _ h.2 ht.2.1).1)
    · simp only [Bool.and_eq_true] at h
      simp only [tstOk, tstOks, Bool.and_eq_true] at ht
      suffices t : PW X _ _ from ⟨t.pt, fun _ => t⟩
      simp only [evalE]
      exact w_and (ha.2 W c X G _ h.1 ht.1).1 ((hb.2 W c X G _ h.2 (by simp only [tstOk, tstOks, Bool.and_eq_true]; exact ht.2)).2 rfl)
    · cases h⟩
theorem s_or {a b : IE} (ha : OkB T cl B k Γ a) (hb : OkB T cl B k Γ b) : OkB T cl B k Γ (.or a b) := ⟨(fun W c X G e h => by
    unfold chkE at h
    split at h
    · simp only [Bool.and_eq_true] at h
      exact PE.cg (fun ε => by rw [evalE]) (e_or (ha.1 W c X G _ h.1) (pe_one (hb.1 W c X G _ h.2)))
    · simp only [Bool.and_eq_true] at h
      exact PE.cg (fun ε => by rw [evalE]) (e_or (ha.1 W c X G _ h.1) (hb.1 W c X G _ h.2))
    · cases h), fun W c X G e h ht => by
    unfold chkE at h
    split at h
    · simp only [Bool.and_eq_true] at h
      simp only [tstOk, tstOks, Bool.and_eq_true] at ht
      suffices t : PW X _ _ from ⟨t.pt, fun _ => t⟩
      simp only [evalE]
      exact w_or (ha.2 W c X G _ h.1 ht.1).1 (w_or1 (hb.2 W c X G _ h.2 ht.2.1).1)
    · simp only [Bool.and_eq_true] at h
      simp only [tstOk, tstOks, Bool.and_eq_true] at ht
      suffices t : PW X _ _ from ⟨t.pt, fun _ => t⟩
      simp only [evalE]
      exact w_or (ha.2 W c X G _ h.1 ht.1).1 ((hb.2 W c X G _ h.2 (by simp only [tstOk, tstOks, Bool.and_eq_true]; exact ht.2)).2 rfl)
    · cases h⟩
theorem s_not {a : IE} (ha : OkB T cl B k Γ a) : OkB T cl B k Γ (.not a) := ⟨(fun W c X G e h => by
    unfold chkE at h
    split at h
    · exact PE.cg (fun ε => by rw [evalE]) (e_not (ha.1 W c X G _ h))
    · cases h), fun W c X G e h ht => by
    unfold chkE at h
    split at h
    · simp only [tstOk] at ht
      refine ⟨?_, fun q => by cases q⟩
      simp only [evalE]
      exact t_not (ha.2 W c X G _ h ht).1
    · cases h⟩
theorem s_ife {t a b : IE} (ht : OkB T cl B k Γ t) (ha : OkB T cl B k Γ a) (hb : OkB T cl B k Γ b) : OkB T cl B k Γ (.ife t a b) := ⟨(fun W c X G e h => by
    unfold chkE at h
    split at h
    · simp only [Bool.and_eq_true] at h
      obtain ⟨⟨⟨h1, h2⟩, h3⟩, h4⟩ := h
      exact PE.cg (fun ε => by rw [evalE]) (e_ife (ht.2 W c X G _ h1 h2).1 (ha.1 W c X G _ h3) (hb.1 W c X G _ h4))
    · cases h), fun W c X G e h ht => by
    unfold chkE at h
    split at h
    · simp only [tstOk] at ht
      cases ht
    · cases h⟩
theorem s_tup {es : IEs} (hl : OkL T cl B k Γ es) : OkB T cl B k Γ (.tup es) := okPlain (fun W c X G e h => by
    unfold chkE at h
    split at h
    · simp only [Bool.and_eq_true] at h
      exact PE.cg (fun ε => by rw [evalE]) (e_tup ((hl W c X G _ h.2 h.1).1 0))
    · cases h) fun c a h => by
    unfold chkE at h
    split at h
    · rfl
    · cases h
theorem s_lst {n : Nat} {es : IEs} (hl : OkL T cl B k Γ es) : OkB T cl B k Γ (.lst n es) := okPlain (fun W c X G e h => by
    unfold chkE at h
    split at h
    · simp only [Bool.and_eq_true] at h
      exact PE.cg (fun ε => by rw [evalE]) (e_lst ((hl W c X G _ h.2 h.1).1 n))
    · cases h) fun c a h => by
    unfold chkE at h
    split at h
    · rfl
    · cases h
theorem plainIx_ok {b : Expr} (h : plainIxC b = true) : PlainIx b := fun o i => by
  cases b <;> first | rfl | (cases h; done)
theorem s_ix {a i : IE} (ha : OkB T cl B k Γ a) (hi : OkB T cl B k Γ i) : OkB T cl B k Γ (.ix a i) := okPlain (fun W c X G e h => by
    unfold chkE at h
    split at h
    · simp only [Bool.and_eq_true] at h
      exact PE.cg (fun ε => by first | (rw [evalE]; rfl) | rw [evalE]) (e_ix (plainIx_ok h.1.1) (ha.1 W c X G _ h.1.2) (hi.1 W c X G _ h.2))
    · cases h) fun c a h => by
    unfold chkE at h
    split at h
    · rfl
    · cases h
theorem s_sl {a : IE} {lo hi : IP} (ha : OkB T cl B k Γ a) (hl : OkP T cl B k Γ lo) (hh : OkP T cl B k Γ hi) : OkB T cl B k Γ (.sl a lo hi) := okPlain (fun W c X G e h => by
    unfold chkE at h
    split at h
    · simp only [Bool.and_eq_true] at h
      exact PE.cg (fun ε => by rw [evalE]) (e_sl (ha.1 W c X G _ h.1.1) (hl W c X G _ h.1.2) (hh W c X G _ h.2))
    · cases h) fun c a h => by
    unfold chkE at h
    split at h
    · rfl
    · cases h
theorem s_rev {a : IE} (ha : OkB T cl B k Γ a) : OkB T cl B k Γ (.rev a) := okPlain (fun W c X G e h => by
    unfold chkE at h
    split at h
    · simp only [Bool.and_eq_true] at h
      obtain rfl := of_decide_eq_true h.1
      exact PE.cg (fun ε => by first | (rw [evalE]; rfl) | rw [evalE]) (e_rev (ha.1 W c X G _ h.2))
    · cases h) fun c a h => by
    unfold chkE at h
    split at h
    · rfl
    · cases h
theorem s_call {f : String} {es : IEs} (hl : OkL T cl B k Γ es) : OkB T cl B k Γ (.call f es) := okPlain (fun W c X G e h => by
    unfold chkE at h
    split at h
    · rename_i x p xs p2
      simp only [Bool.and_eq_true, Bool.not_eq_true'] at h
      obtain ⟨⟨⟨⟨⟨h1, h2⟩, h3⟩, h4⟩, h5⟩, h6⟩ := h
      obtain rfl := of_decide_eq_true h1
      obtain ⟨fd, hT⟩ := Option.isSome_iff_exists.mp h4
      have gl := G.gl h2
      have hm : (orc T k).modes f = some fd.pm := by show (T f).map _ = _; rw [hT]; rfl
      cases xs with
      | nil =>
        cases es with
        | cons _ _ => simp [chkEs] at h6
        | nil =>
          refine PE.cg (fun ε => ?_) (e_call0 G hT gl h3)
          rw [evalE, hm]
          cases q : fd.pm <;> simp [ofO, evalA, R.bind, ioOk, q] <;> rfl
      | cons x xs =>
        refine PE.cg (fun ε => ?_) (e_call G hT gl h3 ((hl W c X G _ h6 h5).2 fd.pm) h5)
        rw [evalE, hm]
        rfl
    · cases h) fun c a h => by
    unfold chkE at h
    split at h
    · rfl
    · cases h
end
end Kr

set_option Elab.async false
set_option linter.all false
set_option maxRecDepth 100000
set_option maxHeartbeats 1000000
namespace Kr
open PySem PySem.Spec PyProof.Rows L2
section
variable {T : Tb} {cl : Cl} {B : List Str} {k : Nat} {Γ : List Nat} {W : WX} {c : Ck} {X : Cx} {x : Str} {i : Nat}
theorem base_ok {o : Expr} (h : baseOk o = true) (nm : Str) {env : Env} : attributeBase o nm env (eval o env) = eval o env := by
  cases o <;> first | rfl | (cases h; done)
theorem s_b1 {o : B1} {a : IE} (ha : OkB T cl B k Γ a) : OkB T cl B k Γ (.b1 o a) := by
  have gen : ∀ {o : B1} {nm : Str} {cv : Value}, n1 o = some (nm, cv) → ∀ (W : WX) (c : Ck) (X : Cx), Good T cl B k W c X → ∀ z p p2, bC B c nm = true → notSt z = true → chkE T B c a z = true →
      PE X (.Call (.Name nm p) [z] [] p2) (tE cl W (evalE (orc T k) Γ (.b1 o a))) := fun e W c X G z p p2 h1 h2 h3 => by
    obtain ⟨gl, hm⟩ := G.bl h1
    exact PE.cg (fun ε => by rw [evalE]) (e_b1 G.calm G.gd G.u64 G.sys e gl hm (ha.1 W c X G _ h3) h2)
  have genI : ∀ {o : B1} {nm : Str} {t : String}, nI o = some (nm, t) → ∀ (W : WX) (c : Ck) (X : Cx), Good T cl B k W c X → ∀ z p p2 p3, bC B c "isinstance" = true → bC B c nm = true → notSt z = true → chkE T B c a z = true →
      PE X (.Call (.Name "isinstance" p) [z, .Name nm p2] [] p3) (tE cl W (evalE (orc T k) Γ (.b1 o a))) := fun e W c X G z p p2 p3 h0 h1 h2 h3 => by
    obtain ⟨gl, hm⟩ := G.bl h0
    obtain ⟨gl2, hm2⟩ := G.bl h1
    exact PE.cg (fun ε => by rw [evalE]) (e_isi e gl hm gl2 hm2 (ha.1 W c X G _ h3) h2)
  cases o
  case bitlen =>
    refine okPlain (fun W c X G e h => ?_) (fun c a h => ?_)
    · unfold chkE at h
      simp only at h
      split at h
      · simp only [Bool.and_eq_true] at h
        obtain ⟨⟨⟨h1, h2⟩, h3⟩, h4⟩ := h
        obtain rfl := of_decide_eq_true h1
        exact PE.cg (fun ε => by rw [evalE]) (e_bits (ha.1 W c X G _ h4) (base_ok h3 _) h2)
      · cases h
    · unfold chkE at h
      simp only at h
      split at h
      · rfl
      · cases h
  case lrange =>
    refine okPlain (fun W c X G e h => ?_) (fun c a h => ?_)
    · unfold chkE at h
      simp only at h
      split at h
      · simp only [Bool.and_eq_true] at h
        obtain ⟨⟨⟨⟨⟨h1, h2⟩, h3⟩, h4⟩, h5⟩, h6⟩ := h
        obtain rfl := of_decide_eq_true h1
        obtain rfl := of_decide_eq_true h2
        obtain ⟨gl, hm⟩ := G.bl h3
        obtain ⟨gl2, hm2⟩ := G.bl h4
        exact PE.cg (fun ε => by rw [evalE]) (e_lrange G.calm gl hm gl2 hm2 (ha.1 W c X G _ h6) h5)
      · cases h
    · unfold chkE at h
      simp only at h
      split at h
      · rfl
      · cases h
  case sset =>
    refine okPlain (fun W c X G e h => ?_) (fun c a h => ?_)
    · unfold chkE at h
      simp only at h
      split at h
      · simp only [Bool.and_eq_true] at h
        obtain ⟨⟨⟨⟨⟨h1, h2⟩, h3⟩, h4⟩, h5⟩, h6⟩ := h
        obtain rfl := of_decide_eq_true h1
        obtain rfl := of_decide_eq_true h2
        obtain ⟨gl, hm⟩ := G.bl h3
        obtain ⟨gl2, hm2⟩ := G.bl h4
        exact PE.cg (fun ε => by rw [evalE]) (e_sset G.calm gl hm gl2 hm2 (ha.1 W c X G _ h6) h5)
      · cases h
    · unfold chkE at h
      simp only at h
      split at h
      · rfl
      · cases h
  case lset =>
    refine okPlain (fun W c X G e h => ?_) (fun c a h => ?_)
    · unfold chkE at h
      simp only at h
      split at h
      · simp only [Bool.and_eq_true] at h
        obtain ⟨⟨⟨⟨⟨h1, h2⟩, h3⟩, h4⟩, h5⟩, h6⟩ := h
        obtain rfl := of_decide_eq_true h1
        obtain rfl := of_decide_eq_true h2
        obtain ⟨gl, hm⟩ := G.bl h3
        obtain ⟨gl2, hm2⟩ := G.bl h4
        exact PE.cg (fun ε => by rw [evalE]) (e_lset G.calm gl hm gl2 hm2 (ha.1 W c X G _ h6) h5)
      · cases h
    · unfold chkE at h
      simp only at h
      split at h
      · rfl
      · cases h
  all_goals
    refine okPlain (fun W c X G e h => ?_) (fun c a h => ?_)
    · unfold chkE at h
      simp only [n1, nI] at h
      split at h
      · simp only [Bool.and_eq_true] at h
        first
          | (obtain ⟨⟨⟨h1, h2⟩, h3⟩, h4⟩ := h
             obtain rfl := of_decide_eq_true h1
             exact gen rfl W c X G _ _ _ h2 h3 h4)
          | (obtain ⟨⟨⟨⟨⟨h1, h2⟩, h3⟩, h4⟩, h5⟩, h6⟩ := h
             obtain rfl := of_decide_eq_true h1
             obtain rfl := of_decide_eq_true h2
             exact genI rfl W c X G _ _ _ _ h3 h4 h5 h6)
      · cases h
    · unfold chkE at h
      simp only [n1, nI] at h
      split at h
      · rfl
      · cases h
theorem s_b2 {o : B2} {a b : IE} (ha : OkB T cl B k Γ a) (hb : OkB T cl B k Γ b) : OkB T cl B k Γ (.b2 o a b) := by
  refine okPlain (fun W c X G e h => ?_) (fun c a h => ?_)
  · unfold chkE at h
    cases o <;> simp only at h <;> first | (cases h; done) | skip
    all_goals
      split at h
      · simp only [Bool.and_eq_true] at h
        obtain ⟨⟨⟨⟨⟨h1, h2⟩, h3⟩, h4⟩, h5⟩, h6⟩ := h
        obtain rfl := of_decide_eq_true h1
        obtain ⟨gl, hm⟩ := G.bl h2
        first
          | exact PE.cg (fun ε => by rw [evalE]) (e_max G.calm gl hm (ha.1 W c X G _ h5) (hb.1 W c X G _ h6) h3 h4)
          | exact PE.cg (fun ε => by rw [evalE]) (e_min G.calm gl hm (ha.1 W c X G _ h5) (hb.1 W c X G _ h6) h3 h4)
      · cases h
  · unfold chkE at h
    cases o <;> simp only at h <;> first | (cases h; done) | skip
    all_goals
      split at h
      · rfl
      · cases h
theorem s_mth {o : B2} {a b : IE} (ha : OkB T cl B k Γ a) (hb : OkB T cl B k Γ b) : OkB T cl B k Γ (.mth o a b) := by
  refine okPlain (fun W c X G e h => ?_) (fun c a h => ?_)
  · unfold chkE at h
    cases o <;> simp only at h <;> first | (cases h; done) | skip
    all_goals
      split at h
      · simp only [Bool.and_eq_true] at h
        obtain ⟨⟨⟨⟨⟨h1, h2⟩, h3⟩, h4⟩, h5⟩, h6⟩ := h
        obtain rfl := of_decide_eq_true h1
        first
          | exact PE.cg (fun ε => by first | (rw [evalE]; rfl) | rw [evalE]) (e_index G.u65 (ha.1 W c X G _ h5) (hb.1 W c X G _ h6) h4 (base_ok h3 _) h2)
          | exact PE.cg (fun ε => by first | (rw [evalE]; rfl) | rw [evalE]) (e_count (ha.1 W c X G _ h5) (hb.1 W c X G _ h6) h4 (base_ok h3 _) h2)
      · cases h
  · unfold chkE at h
    cases o <;> simp only at h <;> first | (cases h; done) | skip
    all_goals
      split at h
      · rfl
      · cases h
theorem s_pop (i : Nat) : OkB T cl B k Γ (.pop i) := okPlain (fun W c X G e h => by
    unfold chkE at h
    split at h
    · simp only [Bool.and_eq_true] at h
      obtain ⟨⟨h1, h2⟩, h3⟩ := h
      obtain rfl := of_decide_eq_true h1
      obtain ⟨v1, v2, v3, v4⟩ := G.var h3
      exact PE.cg (fun ε => by first | (rw [evalE]; rfl) | rw [evalE]) (e_pop v1 v2 v3 v4 h2)
    · cases h) fun c a h => by
    unfold chkE at h
    split at h
    · rfl
    · cases h
theorem s_popAt {i : Nat} {a : IE} (ha : OkB T cl B k Γ a) : OkB T cl B k Γ (.popAt i a) := okPlain (fun W c X G e h => by
    unfold chkE at h
    split at h
    · simp only [Bool.and_eq_true] at h
      obtain ⟨⟨⟨⟨h1, h2⟩, h3⟩, h4⟩, h5⟩ := h
      obtain rfl := of_decide_eq_true h1
      obtain ⟨v1, v2, v3, v4⟩ := G.var h3
      exact PE.cg (fun ε => by first | (rw [evalE]; rfl) | rw [evalE]) (e_popAt v1 v2 v3 v4 h2 (ha.1 W c X G _ h5) h4)
    · cases h) fun c a h => by
    unfold chkE at h
    split at h
    · rfl
    · cases h
theorem s_dnil : OkB T cl B k Γ .dnil := okPlain (fun W c X G e h => by
    unfold chkE at h
    split at h
    · exact PE.cg (fun ε => by rw [evalE]) e_dnil
    · cases h) fun c a h => by
    unfold chkE at h
    split at h
    · rfl
    · cases h
theorem chkKs_some {c : Ck} : ∀ {es : IEs} {kws : List Keyword}, chkKs T B c es kws = true → kws.all (fun k => k.arg.isSome) = true
  | .nil, [], _ => rfl
  | .nil, _ :: _, h => by simp [chkKs] at h
  | .cons _ _, [], h => by simp [chkKs] at h
  | .cons e es, ⟨none, v, _⟩ :: r, h => by simp [chkKs] at h
  | .cons e es, ⟨some n, v, _⟩ :: r, h => by
    simp only [chkKs, Bool.and_eq_true] at h
    simp only [List.all_cons, Bool.and_eq_true]
    exact ⟨rfl, chkKs_some h.2⟩
def IEs.len : IEs → Nat
  | .nil => 0
  | .cons _ es => es.len + 1
theorem evalL_len {O : Orc} {Γ : List Nat} {n : Nat} : ∀ {es : IEs} {ε ε' : Sg} {ds : List D}, evalL O Γ n es ε = .ok ds ε' → ds.length = es.len
  | .nil, ε, ε', ds, h => by
    rw [evalL] at h
    cases h
    rfl
  | .cons e es, ε, ε', ds, h => by
    rw [evalL] at h
    obtain ⟨x, ε1, _, h⟩ := bind_ok h
    obtain ⟨⟨m, d, ε2⟩, _, h⟩ := ofO_ok h
    simp only at h
    split at h
    · obtain ⟨ds', ε3, h1, h⟩ := bind_ok h
      cases h
      simp [evalL_len h1, IEs.len]
    · cases h
theorem chkEs_len {c : Ck} : ∀ {es : IEs} {xs : List Expr}, chkEs T B c es xs = true → es.len = xs.length
  | .nil, [], _ => rfl
  | .nil, _ :: _, h => by simp [chkEs] at h
  | .cons _ _, [], h => by simp [chkEs] at h
  | .cons e es, x :: xs, h => by
    simp only [chkEs, Bool.and_eq_true] at h
    simp [IEs.len, chkEs_len h.2]
theorem chkKs_len {c : Ck} : ∀ {es : IEs} {xs : List Keyword}, chkKs T B c es xs = true → es.len = xs.length
  | .nil, [], _ => rfl
  | .nil, _ :: _, h => by simp [chkKs] at h
  | .cons _ _, [], h => by simp [chkKs] at h
  | .cons e es, ⟨none, v, _⟩ :: r, h => by simp [chkKs] at h
  | .cons e es, ⟨some n, v, _⟩ :: r, h => by
    simp only [chkKs, Bool.and_eq_true] at h
    simp [IEs.len, chkKs_len h.2]
theorem k_nil : OkK T cl B k Γ .nil := fun W c X G xs h n => by
  cases xs with
  | nil =>
    rw [show evalL (orc T k) Γ n .nil = fun ε => R.ok [] ε from funext fun ε => by rw [evalL]]
    exact kk_nil
  | cons x xs => simp [chkKs] at h
theorem k_cons {e : IE} {es : IEs} (he : OkB T cl B k Γ e) (hs : OkK T cl B k Γ es) : OkK T cl B k Γ (.cons e es) := fun W c X G xs h n => by
  cases xs with
  | nil => simp [chkKs] at h
  | cons x xs =>
    obtain ⟨nm, v, p⟩ := x
    cases nm with
    | none => simp [chkKs] at h
    | some nm =>
      simp only [chkKs, Bool.and_eq_true] at h
      have := kk_cons (nm := some nm) (p := p) (n := n) (he.1 W c X G v h.1) (hs W c X G xs h.2 n)
      rw [show evalL (orc T k) Γ n (.cons e es) = _ from funext fun ε => by rw [evalL]]
      exact this
theorem s_callk {f : String} {js : List Nat} {es ks : IEs} (hl : OkLK T cl B k Γ es) (hk : OkLK T cl B k Γ ks) : OkB T cl B k Γ (.callk f js es ks) := okPlain (fun W c X G e h => by
    unfold chkE at h
    split at h
    · rename_i x p xs kws p2
      simp only [Bool.and_eq_true, Bool.not_eq_true'] at h
      obtain ⟨⟨⟨⟨⟨⟨⟨h1, h2⟩, h3⟩, h4⟩, h5⟩, h6⟩, h7⟩, h8⟩ := h
      obtain rfl := of_decide_eq_true h1
      obtain ⟨fd, hT⟩ := Option.isSome_iff_exists.mp h4
      have hm : (orc T k).modes f = some fd.pm := by show (T f).map _ = _; rw [hT]; rfl
      refine PE.cg (fun ε => ?_) (e_callk G hT (G.gl h2) h3 h5 (chkKs_some h7) (of_decide_eq_true h8) (fun ε ds ε' q => (evalL_len q).trans (chkEs_len h6)) (fun ε ds ε' q => (evalL_len q).trans (chkKs_len h7)) (fun e ε => by
        subst e
        cases es with
        | nil => rw [evalL]
        | cons _ _ => simp [chkEs] at h6) ((hl.1 W c X G _ h6 h5).1 0) (hk.2 W c X G _ h7 0))
      rw [evalE, hm]
      rfl
    · cases h) fun c a h => by
    unfold chkE at h
    split at h
    · rfl
    · cases h
/-! ### targets -/
theorem Good.loc (G : Good T cl B k W c X) (h1 : c.N[i]? = some x) (h : (match c.sc.names.lookup x with | some .local => true | some .cell => c.fx x | _ => false) = true) : X.N[i]? = some x ∧ L2.Loc X.env.scope x ∧ (X.fn x = true ∨ X.env.scope.names.lookup x = some .local) := by
  refine ⟨by rw [G.n]; exact h1, ?_⟩
  unfold L2.Loc
  rw [G.sc, G.fx]
  split at h
  · rename_i q; exact ⟨.inl q, .inr q⟩
  · rename_i q; exact ⟨.inr q, .inl h⟩
  · cases h
mutual
theorem okTG (G : Good T cl B k W c X) : ∀ (t : TG) (e : Expr), chkTG c t e = true → PG X e (gT Γ t)
  | .name i, e, h => by
    cases e <;> simp only [chkTG, Bool.and_eq_true] at h <;> first | (cases h; done) | skip
    obtain ⟨h1, h2, h3⟩ := G.loc (of_decide_eq_true h.1) h.2
    exact g_name (by rw [G.n]; exact G.nd) h1 h2 h3
  | .tup ts, e, h => by
    cases e <;> simp only [chkTG, Bool.and_eq_true] at h <;> first | (cases h; done) | skip
    exact g_tup G.calm h.1.1 (by simpa using h.1.2) (okTGs G ts _ h.2 h.1.1)
theorem okTGs (G : Good T cl B k W c X) : ∀ (ts : TGs) (es : List Expr), chkTGs c ts es = true → es.all notSt = true → PGs X es (gTs Γ ts)
  | .nil, [], _, _ => gs_nil
  | .nil, _ :: _, h, _ => by simp [chkTGs] at h
  | .cons _ _, [], h, _ => by simp [chkTGs] at h
  | .cons t ts, e :: es, h, hs => by
    simp only [chkTGs, Bool.and_eq_true] at h
    simp only [List.all_cons, Bool.and_eq_true] at hs
    exact gs_cons hs.1 (okTG G t e h.1) (okTGs G ts es h.2 hs.2)
end
theorem notSetC_ok {e : Expr} (h : notSetC e = true) : ∀ a b p, e ≠ .Set a b p := fun a b p q => by subst q; cases h
theorem isT_ok {q : IE} (h : isT q = true) (O : Orc) (ε : Sg) : tstR (evalE O Γ q ε) = .ok true ε := by
  cases q <;> first | (cases h; done) | skip
  rename_i d
  cases d <;> first | (cases h; done) | skip
  rename_i b
  cases b
  · cases h
  · rw [evalE]; rfl
theorem s_comp {n : Nat} {own : List Nat} {t : TG} {it : II} {q r : IE} (hi : OkI T cl B k Γ it) (hq : OkB T cl B k Γ q) (hr : OkB T cl B k Γ r) : OkB T cl B k Γ (.comp n own t it q r) := okPlain (fun W c X G e h => by
    unfold chkE at h
    split at h
    · rename_i z tg iter ifs as scope pos
      simp only [Bool.and_eq_true] at h
      obtain ⟨⟨⟨⟨⟨⟨⟨h1, h2⟩, h3⟩, h4⟩, h5⟩, h6⟩, h7⟩, h8⟩ := h
      obtain rfl := of_decide_eq_true h1
      have ht : ∀ X', Good T cl B k W0 (c.blk scope) X' → PTs X' ifs (tT cl W0 fun ε => tstR (evalE (orc T k) Γ q ε)) := fun X' G' => by
        split at h7
        · rw [show (fun ε => tstR (evalE (orc T k) Γ q ε)) = fun ε => R.ok true ε from funext fun ε => isT_ok h7 _ ε]
          exact ts_nil
        · simp only [Bool.and_eq_true] at h7
          exact pts_one (hq.2 W0 _ X' G' _ h7.1 h7.2).1
        · cases h7
      have := e_comp (n := n) (W := W) (pos := pos) G (hi W c X G _ _ h5) (blkOk_by h2) (fun X' G' => okTG (Γ := Γ) G' t _ h6) ht (fun X' G' => hr.1 W0 _ X' G' _ h8) (notSetC_ok h4) (fun j hj => by
        rw [ownP_ix]
        exact of_decide_eq_true (List.all_eq_true.mp h3 j hj))
      rw [ownP_ix] at this
      exact PE.cg (fun ε => by first | (rw [evalE]; rfl) | rw [evalE]) this
    · cases h) fun c a h => by
    unfold chkE at h
    split at h
    · rfl
    · cases h
/-! ### lists, parts, walks -/
theorem s_nil : OkL T cl B k Γ .nil := fun W c X G xs h _ => by
  cases xs with
  | nil =>
    refine ⟨fun n => ?_, fun ms => ?_⟩
    · rw [show evalL (orc T k) Γ n .nil = fun ε => R.ok [] ε from funext fun ε => by rw [evalL]]
      exact l_nil
    · cases ms with
      | nil =>
        rw [show evalA (orc T k) Γ .nil [] = fun ε => R.ok [] ε from funext fun ε => by rw [evalA]]
        exact a_nil
      | cons m ms =>
        rw [show evalA (orc T k) Γ .nil (m :: ms) = fun ε => R.st from funext fun ε => by rw [evalA] <;> simp]
        exact ⟨fun _ _ _ _ _ _ _ ⟨_, _, _, r⟩ => r.elim⟩
  | cons x xs => simp [chkEs] at h
theorem s_cons {e : IE} {es : IEs} (he : OkB T cl B k Γ e) (hs : OkL T cl B k Γ es) : OkL T cl B k Γ (.cons e es) := fun W c X G xs h hn => by
  cases xs with
  | nil => simp [chkEs] at h
  | cons x xs =>
    simp only [chkEs, Bool.and_eq_true] at h
    simp only [List.all_cons, Bool.and_eq_true] at hn
    obtain ⟨h1, h2⟩ := hs W c X G xs h.2 hn.2
    have p := he.1 W c X G x h.1
    refine ⟨fun n => ?_, fun ms => ?_⟩
    · have := l_cons (n := n) (notSt_ok hn.1) p (h1 n)
      rw [show evalL (orc T k) Γ n (.cons e es) = _ from funext fun ε => by rw [evalL]]
      exact this
    · cases ms with
      | nil =>
        rw [show evalA (orc T k) Γ (.cons e es) [] = fun ε => R.st from funext fun ε => by rw [evalA] <;> simp]
        exact ⟨fun _ _ _ _ _ _ _ ⟨_, _, _, r⟩ => r.elim⟩
      | cons m ms =>
        have := a_cons (pm := m) (notSt_ok hn.1) p (h2 ms)
        rw [show evalA (orc T k) Γ (.cons e es) (m :: ms) = _ from funext fun ε => by rw [evalA]]
        exact this
theorem s_no : OkP T cl B k Γ .no := fun W c X G a h => by
  cases a with
  | none =>
    rw [show evalP (orc T k) Γ .no = fun ε => R.ok none ε from funext fun ε => by rw [evalP]]
    exact p_no
  | some a => simp [chkP] at h
theorem s_ex {e : IE} (he : OkB T cl B k Γ e) : OkP T cl B k Γ (.ex e) := fun W c X G a h => by
  cases a with
  | none => simp [chkP] at h
  | some a =>
    have := p_ex (he.1 W c X G a h)
    rw [show evalP (orc T k) Γ (.ex e) = _ from funext fun ε => by rw [evalP]]
    exact this
end
end Kr

set_option Elab.async false
set_option linter.all false
set_option maxRecDepth 100000
set_option maxHeartbeats 1000000
namespace Kr
open PySem PySem.Spec PyProof.Rows L2
section
variable {T : Tb} {cl : Cl} {B : List Str} {k : Nat} {Γ : List Nat} {W : WX} {c : Ck} {X : Cx} {x : Str} {i : Nat}
theorem PI.cg {X : Cx} {tg a : Expr} {f g : Sg → R (List D)} (e : ∀ ε, g ε = f ε) (h : PI X tg a (tI cl W f)) : PI X tg a (tI cl W g) := by rw [show g = f from funext e]; exact h
theorem s_seq {a : IE} (ha : OkB T cl B k Γ a) : OkI T cl B k Γ (.seq a) := fun W c X G tg e h => by
  unfold chkI at h
  exact PI.cg (fun ε => by first | (rw [evalI]; rfl) | rw [evalI]) (i_seq (ha.1 W c X G _ h))
theorem s_range1 {a : IE} (ha : OkB T cl B k Γ a) : OkI T cl B k Γ (.range1 a) := fun W c X G tg e h => by
  unfold chkI at h
  split at h
  · simp only [Bool.and_eq_true] at h
    obtain ⟨⟨⟨h1, h2⟩, h3⟩, h4⟩ := h
    obtain rfl := of_decide_eq_true h1
    obtain ⟨gl, hm⟩ := G.bl h2
    exact PI.cg (fun ε => by first | (rw [evalI]; rfl) | rw [evalI]) (i_range1 gl hm (ha.1 W c X G _ h4) h3)
  · cases h
theorem s_range2 {a b : IE} (ha : OkB T cl B k Γ a) (hb : OkB T cl B k Γ b) : OkI T cl B k Γ (.range2 a b) := fun W c X G tg e h => by
  unfold chkI at h
  split at h
  · simp only [Bool.and_eq_true] at h
    obtain ⟨⟨⟨⟨⟨h1, h2⟩, h3⟩, h4⟩, h5⟩, h6⟩ := h
    obtain rfl := of_decide_eq_true h1
    obtain ⟨gl, hm⟩ := G.bl h2
    exact PI.cg (fun ε => by first | (rw [evalI]; rfl) | rw [evalI]) (i_range2 gl hm (ha.1 W c X G _ h5) (hb.1 W c X G _ h6) h3 h4)
  · cases h
theorem s_enum {a : IE} (ha : OkB T cl B k Γ a) : OkI T cl B k Γ (.enum a) := fun W c X G tg e h => by
  unfold chkI at h
  split at h
  · simp only [Bool.and_eq_true] at h
    obtain ⟨⟨⟨h1, h2⟩, h3⟩, h4⟩ := h
    obtain rfl := of_decide_eq_true h1
    obtain ⟨gl, hm⟩ := G.bl h2
    exact PI.cg (fun ε => by first | (rw [evalI]; rfl) | rw [evalI]) (i_enum gl hm (ha.1 W c X G _ h4) h3)
  · cases h
theorem s_zip {a b : IE} (ha : OkB T cl B k Γ a) (hb : OkB T cl B k Γ b) : OkI T cl B k Γ (.zip a b) := fun W c X G tg e h => by
  unfold chkI at h
  split at h
  · simp only [Bool.and_eq_true] at h
    obtain ⟨⟨⟨⟨⟨h1, h2⟩, h3⟩, h4⟩, h5⟩, h6⟩ := h
    obtain rfl := of_decide_eq_true h1
    obtain ⟨gl, hm⟩ := G.bl h2
    exact PI.cg (fun ε => by first | (rw [evalI]; rfl) | rw [evalI]) (i_zip gl hm (ha.1 W c X G _ h5) (hb.1 W c X G _ h6) h3 h4)
  · cases h
variable (T cl B k Γ)
mutual
theorem okB : ∀ e : IE, OkB T cl B k Γ e
  | .var i => s_var i
  | .cst d => s_cst d
  | .op o a b => s_op (okB a) (okB b)
  | .neg a => s_neg (okB a)
  | .cmp o a b => s_cmp (okB a) (okB b)
  | .chain o p a b d => s_chain (okB a) (okB b) (okB d)
  | .chain3 o p q a b d f => s_ch3 (okB a) (okB b) (okB d) (okB f)
  | .and a b => s_and (okB a) (okB b)
  | .or a b => s_or (okB a) (okB b)
  | .not a => s_not (okB a)
  | .ife t a b => s_ife (okB t) (okB a) (okB b)
  | .tup es => s_tup (okL es).1
  | .lst n es => s_lst (okL es).1
  | .ix a i => s_ix (okB a) (okB i)
  | .sl a lo hi => s_sl (okB a) (okP lo) (okP hi)
  | .rev a => s_rev (okB a)
  | .call f es => s_call (okL es).1
  | .callk f js es ks => s_callk (okL es) (okL ks)
  | .b1 o a => s_b1 (okB a)
  | .b2 o a b => s_b2 (okB a) (okB b)
  | .mth o a b => s_mth (okB a) (okB b)
  | .pop i => s_pop i
  | .popAt i a => s_popAt (okB a)
  | .comp n own t it q r => s_comp (okI it) (okB q) (okB r)
  | .dnil => s_dnil
  | .cn n => s_cn n
theorem okL : ∀ es : IEs, OkLK T cl B k Γ es
  | .nil => ⟨s_nil, k_nil⟩
  | .cons e es => ⟨s_cons (okB e) (okL es).1, k_cons (okB e) (okL es).2⟩
theorem okP : ∀ e : IP, OkP T cl B k Γ e
  | .no => s_no
  | .ex e => s_ex (okB e)
theorem okI : ∀ e : II, OkI T cl B k Γ e
  | .seq a => s_seq (okB a)
  | .range1 a => s_range1 (okB a)
  | .range2 a b => s_range2 (okB a) (okB b)
  | .enum a => s_enum (okB a)
  | .zip a b => s_zip (okB a) (okB b)
end
end
end Kr

set_option Elab.async false
set_option linter.all false
set_option maxRecDepth 100000
set_option maxHeartbeats 1000000
namespace Kr
open PySem PySem.Spec PyProof.Rows L2
/-- the slots that must stay -/
def Nr (Γ : List Nat) (σ σ' : L2.St) : Prop := σ'.length = σ.length ∧ ∀ j : Nat, Γ[j]? = some 1000 → σ'[j]? = σ[j]?
theorem Nr.refl {Γ : List Nat} {σ : L2.St} : Nr Γ σ σ := ⟨rfl, fun _ _ => rfl⟩
theorem Nr.trans {Γ : List Nat} {σ σ' σ2 : L2.St} (a : Nr Γ σ σ') (b : Nr Γ σ' σ2) : Nr Γ σ σ2 := ⟨b.1.trans a.1, fun j h => by rw [b.2 j h, a.2 j h]⟩
theorem Near.nr {Γ l : List Nat} {σ σ' : L2.St} (a : Near Γ l σ σ') : Nr Γ σ σ' := ⟨a.1, fun j h => a.2 j (.inl h)⟩
def RdO (cl : Cl) (Γ : List Nat) (σ : L2.St) (T : List Ent) (W : WX) (o : Out) (D : Ends) : Prop := match o with
  | .st => False
  | .nx ε => ∀ σ' H', Nr Γ σ σ' → State σ' ε T H' → D.nx σ' H'
  | .rt n d ε => ∀ σ' H' v, Nr Γ σ σ' → State σ' ε ((v, n, d) :: T) H' → D.rt v H'
  | .bk ε => ∀ σ' H', Nr Γ σ σ' → State σ' ε T H' → D.bk σ' H'
  | .ct ε => ∀ σ' H', Nr Γ σ σ' → State σ' ε T H' → D.ct σ' H'
  | .ex c d ε => ∀ σ' H' (dd : Addr) (x : V), Nr Γ σ σ' → H' dd = some (.xd [(fVal, x)]) → State σ' ε ((x, 0, d) :: T) H' → W (cl c) (some dd) σ' H'
def tS (cl : Cl) (Γ : List Nat) (W : WX) (f : Sg → Out) : TS := fun D σ H => ∃ ε T, State σ ε T H ∧ RdO cl Γ σ T W (f ε) D
section
variable {X : Cx} {Γ : List Nat} {cl : Cl} {W : WX} {σ σ' : L2.St} {T M : List Ent} {H : Hp} {o : Out} {Dn Dn' : Ends} {ε ε' : Sg} {α : Type}
theorem RdO.shift (h : RdO cl Γ σ T W o Dn) (n : Nr Γ σ σ') : RdO cl Γ σ' T W o Dn := by
  cases o with
  | st => exact h
  | nx ε => exact fun σ2 H' m s => h σ2 H' (n.trans m) s
  | rt k d ε => exact fun σ2 H' v m s => h σ2 H' v (n.trans m) s
  | bk ε => exact fun σ2 H' m s => h σ2 H' (n.trans m) s
  | ct ε => exact fun σ2 H' m s => h σ2 H' (n.trans m) s
  | ex c d ε => exact fun σ2 H' dd x m e s => h σ2 H' dd x (n.trans m) e s
theorem RdO.more (h : RdO cl Γ σ T W o Dn) : RdO cl Γ σ (M ++ T) W o Dn := by
  cases o with
  | st => exact h
  | nx ε => exact fun σ2 H' m s => h σ2 H' m s.dropN
  | rt k d ε => exact fun σ2 H' v m s => h σ2 H' v m (s.drop2)
  | bk ε => exact fun σ2 H' m s => h σ2 H' m s.dropN
  | ct ε => exact fun σ2 H' m s => h σ2 H' m s.dropN
  | ex c d ε => exact fun σ2 H' dd x m e s => h σ2 H' dd x m e s.drop2
theorem RdO.out {r : R α} {f : α → Sg → Out} (h : RdO cl Γ σ T W (r.out f) Dn) : Rd cl σ T W r (fun a ε => RdO cl Γ σ T W (f a ε) Dn) := by
  cases r with
  | st => exact h
  | ok a ε => exact h
  | ex c d ε => exact fun H' dd x e s => h σ H' dd x Nr.refl e s
theorem RdO.ofOut {o : Option α} {f : α → Out} (h : RdO cl Γ σ T W (ofOut o f) Dn) : ∃ a, o = some a ∧ RdO cl Γ σ T W (f a) Dn := by
  cases o with
  | none => exact h.elim
  | some a => exact ⟨a, rfl, h⟩
theorem RdO.ite {c : Prop} [Decidable c] {r : Out} (h : RdO cl Γ σ T W (if c then r else .st) Dn) : c ∧ RdO cl Γ σ T W r Dn := by
  by_cases hc : c
  · rw [if_pos hc] at h; exact ⟨hc, h⟩
  · rw [if_neg hc] at h; exact h.elim
theorem RdO.seq {f : Sg → Out} (h : RdO cl Γ σ T W (o.seq f) Dn) : RdO cl Γ σ T W o { Dn with nx := tS cl Γ W f Dn } := by
  cases o with
  | st => exact h
  | nx ε => exact fun σ' H' n s => ⟨ε, T, s, RdO.shift h n⟩
  | rt k d ε => exact h
  | bk ε => exact h
  | ct ε => exact h
  | ex c d ε => exact h
/-- what an expression's value asks ahead of a statement's end -/
theorem goS {f : Sg → R EV} {k : EV → Sg → Out} {Q : VK} (h : tS cl Γ W (fun ε => (f ε).out k) Dn σ H) (q : ∀ (ε : Sg) (T : List Ent) (v : EV) (x : V) (H : Hp), State σ ε (vE x v ++ T) H → vL σ x v → RdO cl Γ σ T W (k v ε) Dn → Q x H) : tE cl W f σ H Q := by
  obtain ⟨ε, T, s, r⟩ := h
  exact ⟨ε, T, s, r.out.imp fun v ε1 r H1 x s1 l => q ε1 T v x H1 s1 l r⟩
/-! ### blocks -/
variable {st : Stmt} {rest : List Stmt} {f g : Sg → Out} {fe ge : Sg → R EV} {e a tg : Expr} {pos p : Pos} {i : Nat} {x : Str}
theorem S_nil : PSs X [] (tS cl Γ W fun ε => .nx ε) := PSs.mono pss_nil fun Dn σ H ⟨ε, T, s, r⟩ => r σ H Nr.refl s
theorem S_cons (h1 : PS X st (tS cl Γ W f)) (h2 : PSs X rest (tS cl Γ W g)) : PSs X (st :: rest) (tS cl Γ W fun ε => (f ε).seq g) :=
  PSs.mono (pss_cons h1 h2) fun Dn σ H ⟨ε, T, s, r⟩ => ⟨ε, T, s, r.seq⟩
theorem S_stuck : PS X st (tS cl Γ W fun ε => .st) := ⟨fun _ _ _ _ _ _ ⟨_, _, _, r⟩ => r.elim⟩
theorem S_pass : PS X (.Pass pos) (tS cl Γ W fun ε => .nx ε) := PS.mono ps_pass fun Dn σ H ⟨ε, T, s, r⟩ => r σ H Nr.refl s
theorem S_doc {y j pos' } : PS X (.Expr (.Constant (.str y) j pos) pos') (tS cl Γ W fun ε => .nx ε) := PS.mono ps_doc fun Dn σ H ⟨ε, T, s, r⟩ => r σ H Nr.refl s
theorem S_brk : PS X (.Break pos) (tS cl Γ W fun ε => .bk ε) := PS.mono ps_break fun Dn σ H ⟨ε, T, s, r⟩ => r σ H Nr.refl s
theorem S_cnt : PS X (.Continue pos) (tS cl Γ W fun ε => .ct ε) := PS.mono ps_continue fun Dn σ H ⟨ε, T, s, r⟩ => r σ H Nr.refl s
theorem S_ret {rd : Nat} (ha : PE X e (tE cl W fe)) : PS X (.Return (some e) pos) (tS cl Γ W fun ε => (fe ε).out fun x ε1 => ofOut (esc ε1 x) fun (m, d, ε2) => if rd ≤ m then .rt rd d ε2 else .st) :=
  PS.mono (ps_ret ha) fun Dn σ H h => goS h fun ε T v x H1 s l r => by
    obtain ⟨⟨m, d, ε2⟩, he, r⟩ := r.ofOut
    obtain ⟨hm, r⟩ := r.ite
    exact r σ H1 x Nr.refl ((s.esc l he).weak hm)
theorem S_retn {rd : Nat} : PS X (.Return none pos) (tS cl Γ W fun ε => .rt rd .none ε) := PS.mono ps_retN fun Dn σ H ⟨ε, T, s, r⟩ => r σ H .non Nr.refl (s.pure fun _ => .non)
theorem S_retnC {rd j : Nat} {p : Pos} : PS X (.Return (some (.Constant .none j p)) pos) (tS cl Γ W fun ε => .rt rd .none ε) :=
  PS.mono (S_ret (cl := cl) (Γ := Γ) (W := W) (rd := 0) (e_cst (d := .none) (k := .none) rfl)) fun Dn σ H ⟨ε, T, s, r⟩ => ⟨ε, T, s, fun σ' H' v n s' => by
    obtain ⟨F, fz⟩ := s'.fz1
    have hv : v = .non := match fz with
      | .non => rfl
      | .cont _ _ c _ => nomatch c
    subst hv
    exact r σ' H' .non n (s'.step1 (M' := [(.non, rd, .none)]) fun _ s => Sep.pure s.drop (fun _ => .non))⟩
theorem S_if {c : Expr} {aa bb : List Stmt} {t : Sg → R Bool} (hc : PT X c (tT cl W t)) (ha : PSs X aa (tS cl Γ W f)) (hb : PSs X bb (tS cl Γ W g)) : PS X (.If c aa bb pos) (tS cl Γ W fun ε => (t ε).out fun k ε1 => if k = true then f ε1 else g ε1) :=
  PS.mono (ps_if hc ha hb) fun Dn σ H ⟨ε, T, s, r⟩ => ⟨ε, T, s, r.out.imp fun k ε1 r H1 s1 => by
    cases k with
    | true => exact ⟨ε1, T, s1, r⟩
    | false => exact ⟨ε1, T, s1, r⟩⟩
def notComp : Expr → Bool
  | .ListComp _ _ _ _ => false
  | .SetComp _ _ _ _ => false
  | .DictComp _ _ _ _ _ => false
  | _ => true
theorem sw_not {e : Expr} (h : notComp e = true) (t : Option Expr) (l : Nat) (env : Env) : swapsWith e t l env = pure false := by
  cases e <;> first | rfl | (cases h; done)
theorem S_expr (hn : notComp e = true) (ha : PE X e (tE cl W fe)) : PS X (.Expr e pos) (tS cl Γ W fun ε => (fe ε).out fun _ ε1 => .nx ε1) :=
  PS.mono (ps_expr ha (sw_not hn _ _ _)) fun Dn σ H h => goS h fun ε T v x H1 s l r => r σ H1 Nr.refl s.dropN
/-! ### stores -/
theorem asg_ok {x : V} {m : Nat} {d : D} (s : State σ ε ((x, m, d) :: T) H) (r : RdO cl Γ σ T W (Kr.ofOut (setSl Γ i m d ε) fun ε3 => .nx ε3) Dn) : Dn.nx (σ.set i (some x)) H := by
  obtain ⟨ε3, h, r⟩ := r.ofOut
  obtain ⟨s1, n⟩ := s.store h
  exact r _ H n.nr s1
theorem S_asg (hN : X.N.Nodup) (hi : X.N[i]? = some x) (hx : L2.Loc X.env.scope x) (hf : X.fn x = true ∨ X.env.scope.names.lookup x = some .local) (hs : swapsWith e (some (.Name x p)) pos.line X.env = pure false) (ha : PE X e (tE cl W fe)) :
    PS X (.Assign [.Name x p] e pos) (tS cl Γ W fun ε => (fe ε).out fun x ε1 => ofOut (esc ε1 x) fun (m, d, ε2) => ofOut (setSl Γ i m d ε2) fun ε3 => .nx ε3) :=
  PS.mono (ps_set hN hi hx ha hs hf) fun Dn σ H h => goS h fun ε T v x H1 s l r => by
    obtain ⟨⟨m, d, ε2⟩, he, r⟩ := r.ofOut
    exact asg_ok (s.esc l he) r
theorem S_unp {ts : Kr.TGs} {es : List Expr} {k : Nat} (hn : notComp e = true) (hw : swappedStores [.Tuple es k p] e X.env = pure none) (ha : PE X e (tE cl W fe)) (hg : PG X (.Tuple es k p) (gT Γ (.tup ts))) :
    PS X (.Assign [.Tuple es k p] e pos) (tS cl Γ W fun ε => (fe ε).out fun x ε1 => ofOut (esc ε1 x) fun (_, d, ε2) => match d with
      | .tuple ds => ofOut (setTGs Γ ts ds ε2) fun ε3 => .nx ε3
      | .list ds => ofOut (setTGs Γ ts ds ε2) fun ε3 => .nx ε3
      | _ => .st) :=
  PS.mono (ps_asg ha hg (by unfold swapsWithSole; exact sw_not hn _ _ _) hw rfl) fun Dn σ H h => goS h fun ε T v x H1 s l r => by
    obtain ⟨⟨m, d, ε2⟩, he, r⟩ := r.ofOut
    have : ∃ ds, d = .tuple ds ∨ d = .list ds := by cases d <;> first | exact r.elim | exact ⟨_, .inl rfl⟩ | exact ⟨_, .inr rfl⟩
    obtain ⟨ds, rfl | rfl⟩ := this
    · obtain ⟨ε3, h3, r⟩ := r.ofOut
      exact ⟨ε2, T, .tuple ds, ε3, (s.esc l he).weak (Nat.zero_le _), h3, fun σ' n s' => r σ' _ n.nr s'⟩
    · obtain ⟨ε3, h3, r⟩ := r.ofOut
      exact ⟨ε2, T, .list ds, ε3, (s.esc l he).weak (Nat.zero_le _), h3, fun σ' n s' => r σ' _ n.nr s'⟩
theorem S_app {y : Expr} {ap : Pos} (hN : X.N[i]? = some x) (hv : Vis X.env.scope x) (hd : (x == ("__debug__" : Str)) = false) (hcd : (x == ("__classdict__" : Str)) = false) {cp : Pos} (hl : (ap.endLine == cp.line) = true) (ha : PE X y (tE cl W fe)) (hs : notSt y = true) :
    PS X (.Expr (.Call (.Attribute (.Name x p) "append" ap) [y] [] cp) pos) (tS cl Γ W fun ε => ofOut (sval ε i) fun p0 => match p0.2 with
    | .list _ => (fe ε).out fun x ε1 => ofOut (esc ε1 x) fun (m, d, ε2) => ofOut (sval ε2 i) fun p => match p with
      | (n + 1, .list xs) => if n ≤ m ∧ xs.length < sizeLine then .nx (ε2.set i (.v (n + 1) (.list (xs ++ [d])))) else .st
      | _ => .st
    | _ => .st) :=
  PS.mono (ps_expr (pe_bm PySem.F.plainAttrs_list PySem.F.slot_list_append PySem.F.type_list_append mt_append (pe_var hN hv hd hcd) (pa_cons ha pa_nil (star_cons hs)) (nameBase _) (few1 hs) hl (star_cons hs) rfl) rfl) fun Dn σ H ⟨ε, T, s, r⟩ => by
    obtain ⟨⟨k0, d0⟩, q0, r⟩ := r.ofOut
    cases d0 <;> first | exact r.elim | skip
    obtain ⟨x0, hx0, ty⟩ := slot_ty (K := X.K) s q0
    refine ⟨x0, hx0, ty, ε, T, s, r.out.imp fun v ε1 r H2 y s2 ly => ?_⟩
    obtain ⟨⟨m, d, ε2⟩, he, r⟩ := r.ofOut
    have s3 := s2.esc ly he
    obtain ⟨⟨kk, d2⟩, q, r⟩ := r.ofOut
    cases kk <;> cases d2 <;> first | exact r.elim | skip
    rename_i n ds
    obtain ⟨hc, r⟩ := r.ite
    obtain ⟨a, vs, hx, ho, hlen, s4⟩ := s3.slotL q
    rw [hx0] at hx
    cases hx
    refine ⟨a, vs, y, rfl, rfl, ho, by rw [hlen]; exact hc.2, ?_⟩
    have s5 : State σ (ε2.set i .un) ((y, n, d) :: (.ref a, n + 1, .list ds) :: T) H2 := State.weak (s4.swap) hc.1
    have s6 : State σ (ε2.set i .un) ((.ref a, n + 1, .list (ds ++ [d])) :: ([] ++ T)) (L2.upd H2 a (.lst (vs ++ [y]))) := State.reL (Z := [(y, n, d)]) (M := []) s5.swap ho (by simp [hlen]) (by
      rw [entsOf_app hlen]
      exact List.perm_append_comm)
    exact r σ _ Nr.refl (s6.backL q hx0)
theorem S_setix {ie : Expr} {tp : Pos} (hN : X.N[i]? = some x) (hv : Vis X.env.scope x) (hd : (x == ("__debug__" : Str)) = false) (hcd : (x == ("__classdict__" : Str)) = false) (hn : notComp e = true)
    (hai : ∀ v, assign (.Subscript (.Name x p) ie tp) X.env v = (do
      let ov ← holding [v] (eval (.Name x p) X.env)
      let iv ← holding [v, ov] (eval ie X.env)
      standAt tp
      holding [v, ov, iv] (setItem ov iv v)
      release [v, ov, iv] [])) (ha : PE X e (tE cl W fe)) (hi : PE X ie (tE cl W ge)) :
    PS X (.Assign [.Subscript (.Name x p) ie tp] e pos) (tS cl Γ W fun ε => (fe ε).out fun x ε1 => ofOut (esc ε1 x) fun (m, d, ε2) => ofOut (sval ε2 i) fun _ => (ge ε2).out fun y ε3 => ofOut (rs ε3 y) fun k => match k with
    | .int k => ofOut (sval ε3 i) fun p => match p with
      | (n + 1, .list xs) => ofOut (ixN xs.length k) fun j => if n ≤ m then .nx (ε3.set i (.v (n + 1) (.list (xs.set j d)))) else .st
      | _ => .st
    | _ => .st) :=
  PS.mono (ps_asg ha (pg_sub (pe_var hN hv hd hcd) hi set_list hai) (by unfold swapsWithSole; exact sw_not hn _ _ _) rfl rfl) fun Dn σ H h => goS h fun ε T v x H1 s l r => by
    obtain ⟨⟨m, d, ε2⟩, he, r⟩ := r.ofOut
    have s1 := s.esc l he
    obtain ⟨⟨m0, d0⟩, q0, r⟩ := r.ofOut
    obtain ⟨x0, hx0, _⟩ := s1.take q0
    refine ⟨x0, hx0, ε2, (x, m, d) :: T, s1, (Rd.more (M := [(x, m, d)]) r.out).imp fun w ε3 r H2 y s2 ly => ?_⟩
    obtain ⟨k, hk, r⟩ := r.ofOut
    cases k <;> first | exact r.elim | skip
    rename_i k
    have ey := s2.int_ ly hk
    obtain ⟨⟨kk, d2⟩, q, r⟩ := r.ofOut
    cases kk <;> cases d2 <;> first | exact r.elim | skip
    rename_i n ds
    obtain ⟨j, hj, r⟩ := r.ofOut
    obtain ⟨hc, r⟩ := r.ite
    obtain ⟨a, vs, hx, ho, hlen, s4⟩ := s2.dropN.slotL q
    rw [hx0] at hx
    cases hx
    have hjl : j < ds.length := (ixN_seq hj).2.1
    have hd : ds[j]? = some ds[j] := List.getElem?_eq_getElem hjl
    obtain ⟨y', hy'⟩ := at_of_len hlen hd
    refine ⟨a, vs, k, j, rfl, ey, ho, by rw [hlen]; exact hj, ?_⟩
    have s5 : State σ (ε3.set i .un) ((x, n, d) :: (.ref a, n + 1, .list ds) :: T) H2 := State.weak (s4.swap) hc
    have s6 : State σ (ε3.set i .un) ((.ref a, n + 1, .list (ds.set j d)) :: ([(y', n, ds[j])] ++ T)) (L2.upd H2 a (.lst (vs.set j x))) := State.reL (Z := [(x, n, d)]) s5.swap ho (by simp [hlen]) (ents_set x d hlen hy' hd)
    exact r σ _ Nr.refl ((State.drop2 (M := [(y', n, ds[j])]) s6).backL q hx0)
end
end Kr

set_option Elab.async false
set_option linter.all false
set_option maxRecDepth 100000
set_option maxHeartbeats 1000000
namespace Kr
open PySem PySem.Spec PyProof.Rows L2
section
variable {X : Cx} {Γ : List Nat} {cl : Cl} {W : WX} {σ σ' : L2.St} {T M : List Ent} {H : Hp} {o : Out} {Dn Dn' : Ends} {ε ε' : Sg} {α : Type}
variable {st : Stmt} {rest : List Stmt} {f g : Sg → Out} {fe ge : Sg → R EV} {e a tg : Expr} {pos p : Pos} {i : Nat} {x : Str}
/-! ### loops -/
/-- what a turn is to reach: F the rest of the loop -/
def NxL (cl : Cl) (Γ : List Nat) (W : WX) (M T : List Ent) (F : Sg → Out) (Dn : Ends) : L2.St → Hp → Prop := fun σ' H' => ∃ ε, State σ' ε (M ++ T) H' ∧ RdO cl Γ σ' T W (F ε) Dn
theorem turn_ok {F : Sg → Out} (h : RdO cl Γ σ T W (match o with
    | .nx ε' => F ε'
    | .ct ε' => F ε'
    | .bk ε' => .nx ε'
    | o => o) Dn) : RdO cl Γ σ (M ++ T) W o { Dn with nx := NxL cl Γ W M T F Dn, ct := NxL cl Γ W M T F Dn, bk := Dn.nx } := by
  cases o with
  | st => exact h
  | nx ε => exact fun σ' H' n s => ⟨ε, s, RdO.shift h n⟩
  | ct ε => exact fun σ' H' n s => ⟨ε, s, RdO.shift h n⟩
  | bk ε => exact fun σ' H' n s => h σ' H' n s.dropN
  | rt k d ε => exact fun σ' H' v n s => h σ' H' v n s.drop2
  | ex c d ε => exact fun σ' H' dd x n e s => h σ' H' dd x n e s.drop2
theorem S_for {iter : Expr} {body : List Stmt} {t : Kr.TG} {fi : Sg → R (List D)} (hp : PassesOwn (model X.prog X.w) X.A X.env X.xe) (hc : X.calm = true) (hi : PI X tg iter (tI cl W fi)) (hg : PG X tg (gT Γ t)) (hb : PSs X body (tS cl Γ W f)) (hs : ∀ a b p, iter ≠ .Set a b p) :
    PS X (.For tg iter body [] pos) (tS cl Γ W fun ε => (fi ε).out fun ds ε1 => forL (fun d ε' => ofOut (setTG Γ t d ε') fun ε2 => f ε2) ds ε1) :=
  PS.mono (ps_for hp hc hi hg hb (notSet_ok hs)) fun Dn σ H ⟨ε, T, s, r⟩ => ⟨ε, T, s, r.out.imp fun ds ε1 r J M H1 hw s1 => by
    refine ⟨fun i m σ' H => m = ds.length - i ∧ i ≤ ds.length ∧ NxL cl Γ W M T (forL (fun d ε' => ofOut (setTG Γ t d ε') fun ε2 => f ε2) (ds.drop i)) Dn σ' H, ⟨_, rfl, Nat.zero_le _, ε1, s1, by simpa using r⟩, ?_⟩
    rintro i m σ2 H2 ⟨rfl, hle, ε2, s2, r2⟩
    obtain ⟨w1, w2⟩ := hw i _ _ _ _ s2
    by_cases hlt : i < ds.length
    · obtain ⟨hgo, hy⟩ := w1 ds[i] (List.getElem?_eq_getElem hlt)
      rw [List.drop_eq_getElem_cons hlt, forL] at r2
      refine .inr ⟨hgo, NxL cl Γ W M T (forL (fun d ε' => ofOut (setTG Γ t d ε') fun ε2 => f ε2) (ds.drop (i + 1))) Dn, fun σ' H' q => ⟨_, by omega, rfl, hlt, q⟩, fun x H3 y => ?_⟩
      cases q : setTG Γ t ds[i] ε2 with
      | none => rw [q] at r2; exact r2.elim
      | some ε3 =>
        rw [q] at r2
        exact ⟨ε2, M ++ T, ds[i], ε3, hy x H3 y, q, fun σ3 n s3 => ⟨ε3, M ++ T, s3, turn_ok (RdO.shift r2 n.nr)⟩⟩
    · have e : i = ds.length := by omega
      subst e
      rw [List.drop_length, forL] at r2
      exact .inl ⟨w2 (by simp), r2 _ _ Nr.refl s2.dropN⟩⟩
theorem S_whl {n : Nat} {c : Expr} {body : List Stmt} {t : Sg → R Bool} (hp : PassesOwn (model X.prog X.w) X.A X.env X.xe) (hc : PT X c (tT cl W t)) (hb : PSs X body (tS cl Γ W f)) : PS X (.While c body [] pos) (tS cl Γ W fun ε => whlL t f n ε) :=
  PS.mono (ps_while hp hc hb) fun Dn σ H ⟨ε, T, s, r⟩ => by
    refine ⟨fun m σ' H => NxL cl Γ W [] T (whlL t f m) Dn σ' H, ⟨n, ε, s, r⟩, ?_⟩
    rintro m σ2 H2 ⟨ε2, s2, r2⟩
    cases m with
    | zero => exact r2.elim
    | succ m =>
      rw [whlL] at r2
      refine ⟨ε2, T, s2, r2.out.imp fun b ε3 r3 H3 s3 => ?_⟩
      cases b with
      | false => exact r3 _ _ Nr.refl s3
      | true => exact ⟨NxL cl Γ W [] T (whlL t f m) Dn, fun σ' H' q => ⟨m, Nat.lt_succ_self _, q⟩, ε3, T, s3, turn_ok (M := []) r3⟩
/-! ### a comprehension stored in a name -/
theorem sw_cell {elt : Expr} {gs : List Comprehension} {scope : Scope} {pos py : Pos} {y : Str} {l : Nat} {env : Env} (hy : env.scope.names.lookup y = some .cell) : swapsWith (.ListComp elt gs scope pos) (some (.Name y py)) l env = pure false := by
  have ky : env.kindOf y = some .cell := hy
  unfold swapsWith
  simp only [ky]
  have e : ((some NameKind.cell : Option NameKind) == some NameKind.local) = false := rfl
  simp only [e, Bool.and_false, Bool.false_and]
theorem S_setC {TT : Tb} {B : List Str} {k : Nat} {c : Ck} {n : Nat} {y : Str} {py : Pos} {t : Kr.TG} {fi : Sg → R (List D)} {ft : Sg → R Bool} {fe : Sg → R EV} {own : List (Str × Nat)} {elt tg iter : Expr} {ifs : List Expr} {scope : Scope} {cp : Pos} (G : Good TT cl B k W c X)
    (hy : X.N[i]? = some y) (hyl : X.env.scope.names.lookup y = some .local) (hsw : swapsWith (.ListComp elt [⟨tg, iter, ifs, 0⟩] scope cp) (some (.Name y py)) pos.line X.env = pure true)
    (hi : PI X tg iter (tI cl W fi)) (ok : BlkOk c.N c.sc scope own) (hg : ∀ X', Good TT cl B k W0 (c.blk scope) X' → PG X' tg (gT Γ t)) (ht : ∀ X', Good TT cl B k W0 (c.blk scope) X' → PTs X' ifs (tT cl W0 ft))
    (he : ∀ X', Good TT cl B k W0 (c.blk scope) X' → PE X' elt (tE cl W0 fe)) (hs : ∀ a b p, iter ≠ .Set a b p) (hsub : ∀ j ∈ tgs t, j ∈ own.map (·.2)) :
    PS X (.Assign [.Name y py] (.ListComp elt [⟨tg, iter, ifs, 0⟩] scope cp) pos) (tS cl Γ W fun ε => ((fi ε).bind fun ds ε1 => (compL (turnC Γ (own.map (·.2)) t ft fe) n ds [] (wipeS (own.map (·.2)) ε1)).bind fun acc ε2 => .ok (.dat (n + 1) (.list acc)) ε2).out
      fun x ε1 => ofOut (esc ε1 x) fun (m, d, ε2) => ofOut (setSl Γ i m d ε2) fun ε3 => .nx ε3) :=
  PS.mono (ps_setLc G.calm (by rw [G.n]; exact G.nd) hy hyl hsw hi (by rw [G.n, G.sc]; exact ok) (fun s H C cells fp => hg _ (G.blk s H scope C cells fp)) (fun s H C cells fp => ht _ (G.blk s H scope C cells fp)) (fun s H C cells fp => he _ (G.blk s H scope C cells fp)) (notSet_ok hs)) fun Dn σ H h =>
    lc_ok (cl := cl) (W := W) (n := n) hsub (goS h fun ε T v x H1 s l r => by
      obtain ⟨⟨m, d, ε2⟩, he, r⟩ := r.ofOut
      exact asg_ok (s.esc l he) r)
end
/-! ### several names at once -/
def entsM : List V → List (Nat × D) → List Ent
  | v :: vs, (m, d) :: ds => (v, m, d) :: entsM vs ds
  | _, _ => []
def tM (cl : Cl) (W : WX) (f : Sg → R (List (Nat × D))) : TA := fun σ H Q => ∃ ε T, State σ ε T H ∧ Rd cl σ T W (f ε) (fun ds ε' => ∀ H' vs, vs.length = ds.length → State σ ε' (entsM vs ds ++ T) H' → Q vs H')
def gM (Γ : List Nat) (l : List Nat) : L2.TGs := fun vs σ H Q => ∃ ε T ds ε', vs.length = ds.length ∧ State σ ε (entsM vs ds ++ T) H ∧ setL Γ l ds ε = some ε' ∧ ∀ σ', Nr Γ σ σ' → State σ' ε' T H → Q σ' H
section
variable {X : Cx} {Γ : List Nat} {cl : Cl} {W : WX} {σ σ' : L2.St} {T M : List Ent} {H : Hp} {Dn : Ends} {ε ε' : Sg} {f : Sg → R EV} {F : Sg → R (List (Nat × D))} {a b c e : Expr} {es : List Expr} {pos px py pz pt : Pos} {i j l : Nat} {x y z : Str} {kt k2 : Nat} {pt2 : Pos} {ls : List Nat}
theorem m_nil : PA X [] (tM cl W fun ε => .ok [] ε) := PA.mono pa_nil fun σ H Q ⟨ε, T, s, r⟩ => r H [] rfl s
theorem m_cons (hs : notSt a = true) (ha : PE X a (tE cl W f)) (hr : PA X es (tM cl W F)) : PA X (a :: es) (tM cl W fun ε => (f ε).bind fun x ε1 => ofO (esc ε1 x) fun (m, d, ε2) => (F ε2).bind fun ds ε3 => .ok ((m, d) :: ds) ε3) :=
  PA.mono (pa_cons ha hr (star_cons hs)) fun σ H Q ⟨ε, T, s, r⟩ => ⟨ε, T, s, r.bind.imp fun v ε1 r H1 x s1 l => by
    obtain ⟨⟨m, d, ε2⟩, he, r⟩ := r.ofO
    refine ⟨ε2, (x, m, d) :: T, s1.esc l he, (Rd.more (M := [(x, m, d)]) r.bind).imp fun ds ε3 q H2 vs hl s3 => q H2 (x :: vs) (by simp [hl]) (s3.permT ?_)⟩
    show (entsM vs ds ++ (x, m, d) :: T).Perm ((x, m, d) :: (entsM vs ds ++ T))
    exact List.perm_middle⟩
theorem gm_nil : PGs X [] (gM Γ []) := ⟨fun pins s σ H vs us Q I r ⟨ε, T, ds, ε', hl, st, he, kk⟩ => pgs_nil.run pins s σ H vs us Q I r (by
    cases ds with
    | cons d ds => simp [setL] at he
    | nil =>
      have e2 : vs = [] := List.eq_nil_of_length_eq_zero hl
      subst e2
      cases he
      exact ⟨rfl, kk σ Nr.refl st⟩)⟩
theorem gm_cons {p : Pos} (hN : X.N.Nodup) (hi : X.N[i]? = some x) (hx : L2.Loc X.env.scope x) (hf : X.fn x = true ∨ X.env.scope.names.lookup x = some .local) (h2 : PGs X es (gM Γ ls)) : PGs X (.Name x p :: es) (gM Γ (i :: ls)) :=
  ⟨fun pins s σ H vs us Q I r ⟨ε, T, ds, ε', hl, st, he, kk⟩ => (pgs_cons (pg_name hN hi hx hf) h2 rfl).run pins s σ H vs us Q I r (by
    cases ds with
    | nil => simp [setL] at he
    | cons d ds =>
      obtain ⟨m, d⟩ := d
      cases vs with
      | nil => simp at hl
      | cons v vs =>
        simp only [setL] at he
        cases q : setSl Γ i m d ε with
        | none => rw [q] at he; cases he
        | some ε1 =>
          rw [q] at he
          obtain ⟨s1, n1⟩ := State.store (T := entsM vs ds ++ T) st q
          exact ⟨v, vs, rfl, ε1, T, ds, ε', by simpa using hl, s1, he, fun σ2 n2 s2 => kk σ2 (n1.nr.trans n2) s2⟩)⟩
theorem setL_len : ∀ {l : List Nat} {ds : List (Nat × D)} {ε ε' : Sg}, setL Γ l ds ε = some ε' → l.length = ds.length
  | [], [], _, _, _ => rfl
  | [], _ :: _, _, _, h => by simp [setL] at h
  | _ :: _, [], _, _, h => by simp [setL] at h
  | i :: l, (m, d) :: ds, ε, ε', h => by
    simp only [setL] at h
    cases q : setSl Γ i m d ε with
    | none => rw [q] at h; cases h
    | some ε1 => rw [q] at h; simp [setL_len h]
/-- a tuple laid, then taken apart -/
theorem S_tasG {ts vs : List Expr} (hc : X.calm = true) (hts : ts.all notSt = true) (hl : ts.length = ls.length) (hz : ls.length ≤ sizeLine) (ha : PA X vs (tM cl W F)) (hg : PGs X ts (gM Γ ls)) (hw : swappedStores [.Tuple ts kt pt] (.Tuple vs k2 pt2) X.env = pure none) :
    PS X (.Assign [.Tuple ts kt pt] (.Tuple vs k2 pt2) pos) (tS cl Γ W fun ε => (F ε).out fun ds ε1 => ofOut (setL Γ ls ds ε1) fun ε2 => .nx ε2) :=
  PS.mono (ps_asg (pe_tup ha) (pg_tup (n := ls.length) hc hg (by rw [assignEach_len, hl]) (assignEach_find hts)) rfl hw rfl) fun Dn σ H ⟨ε, T, s, r⟩ => ⟨ε, T, s, r.out.imp fun ds ε1 r H1 vs hlen s1 => by
    obtain ⟨ε2, h2, r⟩ := r.ofOut
    have hn := setL_len h2
    exact ⟨by omega, fun p hp => ⟨p, vs, rfl, .inl (.inl upd_same), by omega, ε1, T, ds, ε2, hlen, s1.newX hp, h2, fun σ' n s' => r σ' _ n s'⟩⟩⟩
theorem setL2 {v w : V} {m1 m2 : Nat} {d1 d2 : D} (s : State σ ε ((v, m1, d1) :: (w, m2, d2) :: T) H) (h : setL Γ [i, j] [(m1, d1), (m2, d2)] ε = some ε') : State ((σ.set i (some v)).set j (some w)) ε' T H ∧ Nr Γ σ ((σ.set i (some v)).set j (some w)) := by
  simp only [setL] at h
  cases q : setSl Γ i m1 d1 ε with
  | none => rw [q] at h; cases h
  | some ε1 =>
    rw [q] at h
    simp only [Option.bind_some] at h
    cases q2 : setSl Γ j m2 d2 ε1 with
    | none => rw [q2] at h; cases h
    | some ε2 =>
      rw [q2] at h
      cases h
      obtain ⟨s1, n1⟩ := s.store q
      obtain ⟨s2, n2⟩ := s1.store q2
      exact ⟨s2, n1.nr.trans n2.nr⟩
theorem S_tas2 (hc : X.calm = true) (hN : X.N.Nodup) (hi : X.N[i]? = some x) (hj : X.N[j]? = some y) (hij : i ≠ j) (hx : X.env.scope.names.lookup x = some .local) (hy : X.env.scope.names.lookup y = some .local) (ha : PA X [a, b] (tM cl W F))
    (hw : swappedStores [.Tuple [.Name x px, .Name y py] kt pt] (.Tuple [a, b] k2 pt2) X.env = pure (some [x, y])) :
    PS X (.Assign [.Tuple [.Name x px, .Name y py] kt pt] (.Tuple [a, b] k2 pt2) pos) (tS cl Γ W fun ε => (F ε).out fun ds ε1 => ofOut (setL Γ [i, j] ds ε1) fun ε2 => .nx ε2) :=
  PS.mono (ps_par hc hN hi hj hij hx hy ha hw rfl) fun Dn σ H ⟨ε, T, s, r⟩ => ⟨ε, T, s, r.out.imp fun ds ε1 r H1 vs hlen s1 => by
    obtain ⟨ε2, h2, r2⟩ := r.ofOut
    have r3 : ∀ σ' H', Nr Γ σ σ' → State σ' ε2 T H' → Dn.nx σ' H' := r2
    have hn := setL_len h2
    match ds, vs, hn, hlen with
    | [(m1, d1), (m2, d2)], [v, w], _, _ =>
      obtain ⟨s2, n2⟩ := setL2 (T := T) s1 h2
      exact ⟨v, w, rfl, r3 _ _ n2 s2⟩⟩
theorem S_tas3 (hc : X.calm = true) (hN : X.N.Nodup) (hi : X.N[i]? = some x) (hj : X.N[j]? = some y) (hl : X.N[l]? = some z) (hij : i ≠ j) (hil : i ≠ l) (hjl : j ≠ l) (hx : X.env.scope.names.lookup x = some .local) (hy : X.env.scope.names.lookup y = some .local) (hz : X.env.scope.names.lookup z = some .local) (ha : PA X [a, b, c] (tM cl W F))
    (hw : swappedStores [.Tuple [.Name x px, .Name y py, .Name z pz] kt pt] (.Tuple [a, b, c] k2 pt2) X.env = pure (some [x, y, z])) :
    PS X (.Assign [.Tuple [.Name x px, .Name y py, .Name z pz] kt pt] (.Tuple [a, b, c] k2 pt2) pos) (tS cl Γ W fun ε => (F ε).out fun ds ε1 => ofOut (setL Γ [i, j, l] ds ε1) fun ε2 => .nx ε2) :=
  PS.mono (ps_par3 hc hN hi hj hl hij hil hjl hx hy hz ha hw rfl) fun Dn σ H ⟨ε, T, s, r⟩ => ⟨ε, T, s, r.out.imp fun ds ε1 r H1 vs hlen s1 => by
    obtain ⟨ε2, h2, r2⟩ := r.ofOut
    have r3 : ∀ σ' H', Nr Γ σ σ' → State σ' ε2 T H' → Dn.nx σ' H' := r2
    have hn := setL_len h2
    match ds, vs, hn, hlen with
    | [(m1, d1), (m2, d2), (m3, d3)], [u, v, w], _, _ =>
      simp only [setL] at h2
      obtain ⟨ε3, q1, h3⟩ := Option.bind_eq_some_iff.mp h2
      obtain ⟨ε4, q2, h4⟩ := Option.bind_eq_some_iff.mp h3
      obtain ⟨ε5, q3, h5⟩ := Option.bind_eq_some_iff.mp h4
      cases h5
      obtain ⟨s2, n2⟩ := State.store (T := (v, m2, d2) :: (w, m3, d3) :: T) s1 q1
      obtain ⟨s3, n3⟩ := s2.store q2
      obtain ⟨s4, n4⟩ := s3.store q3
      exact ⟨u, v, w, rfl, r3 _ _ ((n2.nr.trans n3.nr).trans n4.nr) s4⟩⟩
end
end Kr

set_option Elab.async false
set_option linter.all false
set_option maxRecDepth 100000
set_option maxHeartbeats 1000000
namespace Kr
open PySem PySem.Spec PyProof.Rows L2
def swN (sc : Scope) (line : Nat) (ts : List Expr) : List Str := ts.filterMap fun
  | .Name id pos => if sc.names.lookup id == some .local && pos.line == line then some id else none
  | _ => none
def swF (sc : Scope) (ts vs : List Expr) : Option (Option (List Str)) :=
  if (!(ts.length == 2 || ts.length == 3) || vs.length != ts.length) = true then some none
  else if (vs.any fun | .Starred .. => true | _ => false) = true then some none
  else if ((swN sc ((ts.head?.map (·.pos.line)).getD 0) ts).length != ts.length || (swN sc ((ts.head?.map (·.pos.line)).getD 0) ts).eraseDups.length != (swN sc ((ts.head?.map (·.pos.line)).getD 0) ts).length) = true then some none
  else if vs.all (foldedForSure 8) = true then some none
  else if vs.all (constantsAlone 8) = true then none
  else some (some (swN sc ((ts.head?.map (·.pos.line)).getD 0) ts))
theorem swF_ok {env : Env} {sc : Scope} {ts vs : List Expr} {kt k2 : Nat} {pt p2 : Pos} {r : Option (List Str)} (hs : env.scope = sc) (hk : sc.kind = .function) (h : swF sc ts vs = some r) : swappedStores [.Tuple ts kt pt] (.Tuple vs k2 p2) env = pure r := by
  subst hs
  have hb : env.blockKind = .function := by unfold Env.blockKind; rw [hk]; rfl
  have hn : ∀ line, (ts.filterMap fun
    | .Name id pos => if env.kindOf id == some .local && pos.line == line then some id else none
    | _ => none) = swN env.scope line ts := fun line => rfl
  unfold swF at h
  unfold swappedStores
  simp only [hb]
  have e1 : (ScopeKind.function != ScopeKind.function) = false := rfl
  rw [e1]
  simp only [Bool.or_false]
  by_cases c1 : (!(ts.length == 2 || ts.length == 3) || vs.length != ts.length) = true
  · rw [if_pos c1] at h
    cases h
    exact if_pos c1
  rw [if_neg c1] at h
  refine (if_neg c1).trans ?_
  by_cases c2 : (vs.any fun | .Starred .. => true | _ => false) = true
  · rw [if_pos c2] at h
    cases h
    exact if_pos c2
  rw [if_neg c2] at h
  refine (if_neg c2).trans ?_
  by_cases c3 : ((swN env.scope ((ts.head?.map (·.pos.line)).getD 0) ts).length != ts.length || (swN env.scope ((ts.head?.map (·.pos.line)).getD 0) ts).eraseDups.length != (swN env.scope ((ts.head?.map (·.pos.line)).getD 0) ts).length) = true
  · rw [if_pos c3] at h
    cases h
    exact if_pos c3
  rw [if_neg c3] at h
  refine (if_neg c3).trans ?_
  by_cases c4 : vs.all (foldedForSure 8) = true
  · rw [if_pos c4] at h
    cases h
    exact if_pos c4
  rw [if_neg c4] at h
  refine (if_neg c4).trans ?_
  by_cases c5 : vs.all (constantsAlone 8) = true
  · rw [if_pos c5] at h
    cases h
  rw [if_neg c5] at h
  cases h
  exact if_neg c5

/-! ### statements against the text -/
def locC (c : Ck) (i : Nat) (x : Str) : Bool := decide (c.N[i]? = some x) && (match c.sc.names.lookup x with | some .local => true | some .cell => c.fx x | _ => false)
def chkNs (c : Ck) : List Nat → List Expr → Bool
  | [], [] => true
  | i :: l, .Name x _ :: es => locC c i x && chkNs c l es
  | _, _ => false
def isLocal (c : Ck) (x : Str) : Bool := decide (c.sc.names.lookup x = some .local)
def kindF (c : Ck) : Bool := decide (c.sc.kind = .function)
def notTup : Expr → Bool
  | .Tuple _ _ _ => false
  | _ => true
def tasC (c : Ck) (l : List Nat) (ts vs : List Expr) : Bool := match swF c.sc ts vs with
  | some none => ts.all notSt && decide (ts.length = l.length) && decide (l.length ≤ 100) && chkNs c l ts
  | some (some ns) => (match l, ts, vs, ns with
    | [i, j], [.Name x _, .Name y _], [_, _], [x', y'] => decide (x = x') && decide (y = y') && decide (i ≠ j) && decide (c.N[i]? = some x) && decide (c.N[j]? = some y) && isLocal c x && isLocal c y
    | [i, j, l], [.Name x _, .Name y _, .Name z _], [_, _, _], [x', y', z'] => decide (x = x') && decide (y = y') && decide (z = z') && decide (i ≠ j) && decide (i ≠ l) && decide (j ≠ l) && decide (c.N[i]? = some x) && decide (c.N[j]? = some y) && decide (c.N[l]? = some z) && isLocal c x && isLocal c y && isLocal c z
    | _, _, _, _ => false)
  | none => false
section
variable (T : Tb) (B : List Str)
mutual
def chkS (c : Ck) : IS → Stmt → Bool
  | .asg i e, s => match s with
    | .Assign [.Name x p] v pos => locC c i x && chkE T B c e v && (match v with
      | .ListComp _ _ scope cp => (match c.sc.names.lookup x with
        | some .local => kindF c && (p.line == cp.line) && !(scope.names.any fun (n, k) => n == x && (k == .local || k == .cell))
        | some .cell => true
        | _ => false)
      | v => notComp v)
    | _ => false
  | .tas l es, s => match s with
    | .Assign [.Tuple ts _ _] (.Tuple vs _ _) _ => kindF c && vs.all notSt && chkEs T B c es vs && tasC c l ts vs
    | _ => false
  | .unp ts e, s => match s with
    | .Assign [.Tuple es k p] v _ => notTup v && notComp v && chkE T B c e v && chkTG c (.tup ts) (.Tuple es k p)
    | _ => false
  | .app i e, s => match s with
    | .Expr (.Call (.Attribute (.Name x _) nm ap) [y] [] cp) _ => decide (nm = ("append" : Str)) && (ap.endLine == cp.line) && varC c i x && notSt y && chkE T B c e y
    | _ => false
  | .setix i a e, s => match s with
    | .Assign [.Subscript (.Name x _) ie _] v _ => varC c i x && plainIxC ie && notComp v && chkE T B c a ie && chkE T B c e v
    | _ => false
  | .ret e, s => match s with
    | .Return (some v) _ => chkE T B c e v
    | _ => false
  | .retm i, s => match s with
    | .Return (some (.Name x _)) _ => varC c i x
    | _ => false
  | .retn, s => match s with
    | .Return none _ => true
    | .Return (some (.Constant .none _ _)) _ => true
    | _ => false
  | .ifs t a b, s => match s with
    | .If x xs ys _ => chkE T B c t x && tstOk x && chkSs c a xs && chkSs c b ys
    | _ => false
  | .for_ t it b, s => match s with
    | .For tg iter body [] _ => notSetC iter && chkI T B c it tg iter && chkTG c t tg && chkSs c b body
    | _ => false
  | .whl _ t b, s => match s with
    | .While x body [] _ => chkE T B c t x && tstOk x && chkSs c b body
    | _ => false
  | .expr e, s => match s with
    | .Expr v _ => notComp v && chkE T B c e v
    | _ => false
  | .raise _ _, _ => false
  | .stuck, _ => true
  | .brk, s => match s with
    | .Break _ => true
    | _ => false
  | .cnt, s => match s with
    | .Continue _ => true
    | _ => false
  | .pass, s => match s with
    | .Pass _ => true
    | .Expr (.Constant (.str _) _ _) _ => true
    | _ => false
def chkSs (c : Ck) : ISs → List Stmt → Bool
  | .nil, [] => true
  | .cons s ss, x :: xs => chkS c s x && chkSs c ss xs
  | _, _ => false
end
end
section
variable {T : Tb} {cl : Cl} {B : List Str} {k : Nat} {Γ : List Nat} {rd : Nat} {W : WX} {c : Ck} {X : Cx} {x : Str} {i : Nat}
theorem Good.locC (G : Good T cl B k W c X) (h : locC c i x = true) : X.N[i]? = some x ∧ L2.Loc X.env.scope x ∧ (X.fn x = true ∨ X.env.scope.names.lookup x = some .local) := by
  unfold Kr.locC at h
  simp only [Bool.and_eq_true] at h
  exact G.loc (of_decide_eq_true h.1) h.2
theorem Good.ndX (G : Good T cl B k W c X) : X.N.Nodup := by rw [G.n]; exact G.nd
theorem Good.isL (G : Good T cl B k W c X) (h : isLocal c x = true) : X.env.scope.names.lookup x = some .local := by rw [G.sc]; exact of_decide_eq_true h
theorem okNs (G : Good T cl B k W c X) : ∀ (l : List Nat) (es : List Expr), chkNs c l es = true → PGs X es (gM Γ l)
  | [], [], _ => gm_nil
  | [], _ :: _, h => by simp [chkNs] at h
  | _ :: _, [], h => by simp [chkNs] at h
  | i :: l, e :: es, h => by
    cases e <;> simp only [chkNs, Bool.and_eq_true] at h <;> first | (cases h; done) | skip
    obtain ⟨h1, h2, h3⟩ := G.locC h.1
    exact gm_cons G.ndX h1 h2 h3 (okNs G l es h.2)
theorem okM (G : Good T cl B k W c X) : ∀ (l : List Nat) (es : IEs) (vs : List Expr), chkEs T B c es vs = true → vs.all notSt = true → PA X vs (tM cl W (evalM (orc T k) Γ l es))
  | l, .nil, [], _, _ => by
    cases l with
    | nil =>
      rw [show evalM (orc T k) Γ [] .nil = fun ε => R.ok [] ε from funext fun ε => by rw [evalM]]
      exact m_nil
    | cons i l =>
      rw [show evalM (orc T k) Γ (i :: l) .nil = fun ε => R.st from funext fun ε => by rw [evalM] <;> simp]
      exact ⟨fun _ _ _ _ _ _ _ ⟨_, _, _, r⟩ => r.elim⟩
  | _, .nil, _ :: _, h, _ => by simp [chkEs] at h
  | _, .cons _ _, [], h, _ => by simp [chkEs] at h
  | l, .cons e es, v :: vs, h, hs => by
    simp only [chkEs, Bool.and_eq_true] at h
    simp only [List.all_cons, Bool.and_eq_true] at hs
    cases l with
    | nil =>
      rw [show evalM (orc T k) Γ [] (.cons e es) = fun ε => R.st from funext fun ε => by rw [evalM] <;> simp]
      exact ⟨fun _ _ _ _ _ _ _ ⟨_, _, _, r⟩ => r.elim⟩
    | cons i l =>
      have := m_cons hs.1 ((okB T cl B k Γ e).1 W c X G v h.1) (okM G l es vs h.2 hs.2)
      rw [show evalM (orc T k) Γ (i :: l) (.cons e es) = _ from funext fun ε => by rw [evalM]]
      exact this
def OkS (T : Tb) (cl : Cl) (B : List Str) (k : Nat) (Γ : List Nat) (rd : Nat) (s : IS) : Prop := ∀ (W : WX) (c : Ck) (X : Cx), Good T cl B k W c X → PassesOwn (model X.prog X.w) X.A X.env X.xe → ∀ st, chkS T B c s st = true → PS X st (tS cl Γ W (exec (orc T k) Γ rd s))
def OkSs (T : Tb) (cl : Cl) (B : List Str) (k : Nat) (Γ : List Nat) (rd : Nat) (s : ISs) : Prop := ∀ (W : WX) (c : Ck) (X : Cx), Good T cl B k W c X → PassesOwn (model X.prog X.w) X.A X.env X.xe → ∀ st, chkSs T B c s st = true → PSs X st (tS cl Γ W (execs (orc T k) Γ rd s))
theorem PS.cg {X : Cx} {a : Stmt} {f g : Sg → Out} (e : ∀ ε, g ε = f ε) (h : PS X a (tS cl Γ W f)) : PS X a (tS cl Γ W g) := by rw [show g = f from funext e]; exact h
theorem PSs.cg {X : Cx} {a : List Stmt} {f g : Sg → Out} (e : ∀ ε, g ε = f ε) (h : PSs X a (tS cl Γ W f)) : PSs X a (tS cl Γ W g) := by rw [show g = f from funext e]; exact h
theorem z_asg {e : IE} : OkS T cl B k Γ rd (.asg i e) := fun W c X G po st h => by
  unfold chkS at h
  split at h
  · rename_i x p v pos
    simp only [Bool.and_eq_true] at h
    obtain ⟨⟨h1, h2⟩, h3⟩ := h
    obtain ⟨l1, l2, l3⟩ := G.locC h1
    have plain : swapsWith v (some (.Name x p)) pos.line X.env = pure false → PS X (.Assign [.Name x p] v pos) (tS cl Γ W (exec (orc T k) Γ rd (.asg i e))) := fun hs =>
      PS.cg (fun ε => by rw [exec]) (S_asg G.ndX l1 l2 l3 hs ((okB T cl B k Γ e).1 W c X G v h2))
    split at h3
    · rename_i elt gs scope cp
      split at h3
      · rename_i hl
        simp only [Bool.and_eq_true, Bool.not_eq_true'] at h3
        obtain ⟨⟨q1, q2⟩, q3⟩ := h3
        cases e <;> (unfold chkE at h2; first | (cases h2; done) | skip)
        case b1 o a => cases o <;> simp only [n1, nI] at h2 <;> cases h2
        case b2 o a b => cases o <;> cases h2
        case mth o a b => cases o <;> cases h2
        case comp n own t it q r =>
          split at h2
          · rename_i z tg iter ifs as scope2 pos2 eq
            cases eq
            simp only [Bool.and_eq_true] at h2
            obtain ⟨⟨⟨⟨⟨⟨⟨g1, g2⟩, g3⟩, g4⟩, g5⟩, g6⟩, g7⟩, g8⟩ := h2
            obtain rfl := of_decide_eq_true g1
            have ht : ∀ X', Good T cl B k W0 (c.blk scope) X' → PTs X' ifs (tT cl W0 fun ε => tstR (evalE (orc T k) Γ q ε)) := fun X' G' => by
              split at g7
              · rw [show (fun ε => tstR (evalE (orc T k) Γ q ε)) = fun ε => R.ok true ε from funext fun ε => isT_ok g7 _ ε]
                exact ts_nil
              · simp only [Bool.and_eq_true] at g7
                exact pts_one ((okB T cl B k Γ q).2 W0 _ X' G' _ g7.1 g7.2).1
              · cases g7
            have hk : X.env.scope.kind = .function := by rw [G.sc]; exact of_decide_eq_true q1
            have hyl : X.env.scope.names.lookup x = some .local := by rw [G.sc]; exact hl
            have := S_setC (Γ := Γ) (n := n) (W := W) (pos := pos) G l1 hyl (sw_true hk hyl q2 q3) (okI T cl B k Γ it W c X G _ _ g5) (blkOk_by g2) (fun X' G' => okTG (Γ := Γ) G' t _ g6) ht (fun X' G' => (okB T cl B k Γ r).1 W0 _ X' G' _ g8) (notSetC_ok g4) (fun j hj => by
              rw [ownP_ix]
              exact of_decide_eq_true (List.all_eq_true.mp g3 j hj))
            rw [ownP_ix] at this
            exact PS.cg (fun ε => by rw [exec, evalE]; rfl) this
          · cases h2
      · rename_i hl
        exact plain (sw_cell (by rw [G.sc]; exact hl))
      · cases h3
    · exact plain (sw_not h3 _ _ _)
  · cases h
end
end Kr

set_option Elab.async false
set_option linter.all false
set_option maxRecDepth 100000
set_option maxHeartbeats 1000000
namespace Kr
open PySem PySem.Spec PyProof.Rows L2
section
variable {T : Tb} {cl : Cl} {B : List Str} {k : Nat} {Γ : List Nat} {rd : Nat} {W : WX} {c : Ck} {X : Cx} {x : Str} {i : Nat}
theorem z_tas {l : List Nat} {es : IEs} : OkS T cl B k Γ rd (.tas l es) := fun W c X G po st h => by
  unfold chkS at h
  split at h
  · rename_i ts kt pt vs k2 pt2 pos
    simp only [Bool.and_eq_true] at h
    obtain ⟨⟨⟨h1, h2⟩, h3⟩, h4⟩ := h
    have hk : c.sc.kind = .function := of_decide_eq_true h1
    have pa := okM (Γ := Γ) (k := k) (cl := cl) (W := W) G l es vs h3 h2
    unfold tasC at h4
    split at h4
    · rename_i q
      simp only [Bool.and_eq_true, decide_eq_true_eq] at h4
      obtain ⟨⟨⟨g1, g2⟩, g3⟩, g4⟩ := h4
      exact PS.cg (fun ε => by rw [exec]) (S_tasG G.calm g1 g2 (by rw [sizeLine_eq]; omega) pa (okNs G l ts g4) (swF_ok G.sc hk q))
    · rename_i ns q
      split at h4
      · simp only [Bool.and_eq_true, decide_eq_true_eq] at h4
        obtain ⟨⟨⟨⟨⟨⟨g1, g2⟩, g3⟩, g4⟩, g5⟩, g6⟩, g7⟩ := h4
        subst g1 g2
        exact PS.cg (fun ε => by rw [exec]) (S_tas2 G.calm G.ndX (by rw [G.n]; exact g4) (by rw [G.n]; exact g5) g3 (G.isL g6) (G.isL g7) pa (swF_ok G.sc hk q))
      · simp only [Bool.and_eq_true, decide_eq_true_eq] at h4
        obtain ⟨⟨⟨⟨⟨⟨⟨⟨⟨⟨⟨g1, g2⟩, g3⟩, g4⟩, g5⟩, g6⟩, g7⟩, g8⟩, g9⟩, g10⟩, g11⟩, g12⟩ := h4
        subst g1 g2 g3
        exact PS.cg (fun ε => by rw [exec]) (S_tas3 G.calm G.ndX (by rw [G.n]; exact g7) (by rw [G.n]; exact g8) (by rw [G.n]; exact g9) g4 g5 g6 (G.isL g10) (G.isL g11) (G.isL g12) pa (swF_ok G.sc hk q))
      · cases h4
    · cases h4
  · cases h
theorem sw_tup {es : List Expr} {k : Nat} {p : Pos} {v : Expr} (h : notTup v = true) (env : Env) : swappedStores [.Tuple es k p] v env = pure none := by
  cases v <;> first | rfl | (cases h; done)
theorem z_unp {ts : Kr.TGs} {e : IE} : OkS T cl B k Γ rd (.unp ts e) := fun W c X G po st h => by
  unfold chkS at h
  split at h
  · simp only [Bool.and_eq_true] at h
    obtain ⟨⟨⟨h1, h2⟩, h3⟩, h4⟩ := h
    exact PS.cg (fun ε => by first | (rw [exec]; rfl) | rw [exec]) (S_unp h2 (sw_tup h1 _) ((okB T cl B k Γ e).1 W c X G _ h3) (okTG G _ _ h4))
  · cases h
theorem z_app {e : IE} : OkS T cl B k Γ rd (.app i e) := fun W c X G po st h => by
  unfold chkS at h
  split at h
  · simp only [Bool.and_eq_true] at h
    obtain ⟨⟨⟨⟨h1, h2⟩, h3⟩, h4⟩, h5⟩ := h
    obtain rfl := of_decide_eq_true h1
    obtain ⟨v1, v2, v3, v4⟩ := G.var h3
    exact PS.cg (fun ε => by first | (rw [exec]; rfl) | rw [exec]) (S_app v1 v2 v3 v4 h2 ((okB T cl B k Γ e).1 W c X G _ h5) h4)
  · cases h
theorem z_setix {a e : IE} : OkS T cl B k Γ rd (.setix i a e) := fun W c X G po st h => by
  unfold chkS at h
  split at h
  · simp only [Bool.and_eq_true] at h
    obtain ⟨⟨⟨⟨h1, h2⟩, h3⟩, h4⟩, h5⟩ := h
    obtain ⟨v1, v2, v3, v4⟩ := G.var h1
    rename_i x p ie tp v pos
    refine PS.cg (fun ε => by first | (rw [exec]; rfl) | rw [exec]) (S_setix v1 v2 v3 v4 h3 ?_ ((okB T cl B k Γ e).1 W c X G _ h5) ((okB T cl B k Γ a).1 W c X G _ h4))
    intro v
    cases ie <;> first | rfl | (cases h2; done)
  · cases h
theorem z_ret {e : IE} : OkS T cl B k Γ rd (.ret e) := fun W c X G po st h => by
  unfold chkS at h
  split at h
  · exact PS.cg (fun ε => by rw [exec]) (S_ret ((okB T cl B k Γ e).1 W c X G _ h))
  · cases h
theorem z_retm : OkS T cl B k Γ rd (.retm i) := fun W c X G po st h => by
  unfold chkS at h
  split at h
  · obtain ⟨h1, h2, h3, h4⟩ := G.var h
    exact PS.mono (ps_ret (pe_var h1 h2 h3 h4)) fun Dn σ H ⟨ε, T, s, r⟩ => by
      have r' : RdO cl Γ σ T W (ofOut (sval ε i) fun p => if rd ≤ p.1 then .rt rd p.2 (ε.set i .un) else .st) Dn := by rw [exec] at r; exact r
      obtain ⟨⟨m, d⟩, q, r2⟩ := r'.ofOut
      obtain ⟨hm, r3⟩ := r2.ite
      obtain ⟨z, hz, s1⟩ := s.take q
      exact ⟨z, hz, r3 σ H z Nr.refl (s1.weak hm)⟩
  · cases h
theorem z_retn : OkS T cl B k Γ rd .retn := fun W c X G po st h => by
  unfold chkS at h
  split at h
  · exact PS.cg (fun ε => by rw [exec]) S_retn
  · exact PS.cg (fun ε => by rw [exec]) S_retnC
  · cases h
theorem z_ifs {t : IE} {a b : ISs} (ha : OkSs T cl B k Γ rd a) (hb : OkSs T cl B k Γ rd b) : OkS T cl B k Γ rd (.ifs t a b) := fun W c X G po st h => by
  unfold chkS at h
  split at h
  · simp only [Bool.and_eq_true] at h
    obtain ⟨⟨⟨h1, h2⟩, h3⟩, h4⟩ := h
    exact PS.cg (fun ε => by first | (rw [exec]; rfl) | rw [exec]) (S_if ((okB T cl B k Γ t).2 W c X G _ h1 h2).1 (ha W c X G po _ h3) (hb W c X G po _ h4))
  · cases h
theorem z_for {t : Kr.TG} {it : II} {b : ISs} (hb : OkSs T cl B k Γ rd b) : OkS T cl B k Γ rd (.for_ t it b) := fun W c X G po st h => by
  unfold chkS at h
  split at h
  · simp only [Bool.and_eq_true] at h
    obtain ⟨⟨⟨h1, h2⟩, h3⟩, h4⟩ := h
    exact PS.cg (fun ε => by rw [exec]) (S_for po G.calm (okI T cl B k Γ it W c X G _ _ h2) (okTG G _ _ h3) (hb W c X G po _ h4) (notSetC_ok h1))
  · cases h
theorem z_whl {n : Nat} {t : IE} {b : ISs} (hb : OkSs T cl B k Γ rd b) : OkS T cl B k Γ rd (.whl n t b) := fun W c X G po st h => by
  unfold chkS at h
  split at h
  · simp only [Bool.and_eq_true] at h
    obtain ⟨⟨h1, h2⟩, h3⟩ := h
    exact PS.cg (fun ε => by first | (rw [exec]; rfl) | rw [exec]) (S_whl (n := n) po ((okB T cl B k Γ t).2 W c X G _ h1 h2).1 (hb W c X G po _ h3))
  · cases h
theorem z_expr {e : IE} : OkS T cl B k Γ rd (.expr e) := fun W c X G po st h => by
  unfold chkS at h
  split at h
  · simp only [Bool.and_eq_true] at h
    exact PS.cg (fun ε => by rw [exec]) (S_expr h.1 ((okB T cl B k Γ e).1 W c X G _ h.2))
  · cases h
theorem z_raise {s : String} {e : IE} : OkS T cl B k Γ rd (.raise s e) := fun W c X G po st h => by
  unfold chkS at h; cases h
theorem z_stuck : OkS T cl B k Γ rd .stuck := fun W c X G po st h => PS.cg (fun ε => by rw [exec]) S_stuck
theorem z_brk : OkS T cl B k Γ rd .brk := fun W c X G po st h => by
  unfold chkS at h
  split at h
  · exact PS.cg (fun ε => by rw [exec]) S_brk
  · cases h
theorem z_cnt : OkS T cl B k Γ rd .cnt := fun W c X G po st h => by
  unfold chkS at h
  split at h
  · exact PS.cg (fun ε => by rw [exec]) S_cnt
  · cases h
theorem z_pass : OkS T cl B k Γ rd .pass := fun W c X G po st h => by
  unfold chkS at h
  split at h
  · exact PS.cg (fun ε => by rw [exec]) S_pass
  · exact PS.cg (fun ε => by rw [exec]) S_doc
  · cases h
theorem z_nil : OkSs T cl B k Γ rd .nil := fun W c X G po st h => by
  cases st with
  | nil => exact PSs.cg (fun ε => by rw [execs]) S_nil
  | cons s st => simp [chkSs] at h
theorem z_cons {s : IS} {ss : ISs} (hs : OkS T cl B k Γ rd s) (hss : OkSs T cl B k Γ rd ss) : OkSs T cl B k Γ rd (.cons s ss) := fun W c X G po st h => by
  cases st with
  | nil => simp [chkSs] at h
  | cons x xs =>
    simp only [chkSs, Bool.and_eq_true] at h
    exact PSs.cg (fun ε => by rw [execs]) (S_cons (hs W c X G po x h.1) (hss W c X G po xs h.2))
variable (T cl B k Γ rd)
mutual
theorem okS : ∀ s : IS, OkS T cl B k Γ rd s
  | .asg i e => z_asg
  | .tas l es => z_tas
  | .unp ts e => z_unp
  | .app i e => z_app
  | .setix i a e => z_setix
  | .ret e => z_ret
  | .retm i => z_retm
  | .retn => z_retn
  | .ifs t a b => z_ifs (okSs a) (okSs b)
  | .for_ t it b => z_for (okSs b)
  | .whl n t b => z_whl (okSs b)
  | .expr e => z_expr
  | .raise s e => z_raise
  | .stuck => z_stuck
  | .brk => z_brk
  | .cnt => z_cnt
  | .pass => z_pass
theorem okSs : ∀ s : ISs, OkSs T cl B k Γ rd s
  | .nil => z_nil
  | .cons s ss => z_cons (okS s) (okSs ss)
end
end
end Kr

set_option Elab.async false
set_option linter.all false
set_option maxRecDepth 100000
set_option maxHeartbeats 1000000
namespace Kr
open PySem PySem.Spec PyProof.Rows L2
/-! ### a def of the text -/
def ioGam : List PM → List Nat → Bool
  | [], _ => true
  | .io _ :: ms, g :: gs => g == 1000 && ioGam ms gs
  | _ :: ms, _ :: gs => ioGam ms gs
  | _ :: _, [] => false
section
variable {σ : L2.St} {ε : Sg} {T M : List Ent} {H : Hp} {x y : V} {n m i : Nat} {d : D} {Γ : List Nat}
theorem er_un : ∀ n : Nat, ∃ E, ER (List.replicate n (none : Option V)) (List.replicate n Sl.un) E ∧ ∀ (T : List Ent) (H : Hp), Sep [] H T → Sep [] H (E ++ T)
  | 0 => ⟨[], .nil, fun _ _ h => h⟩
  | n + 1 => by
    obtain ⟨E, a, b⟩ := er_un n
    exact ⟨_, .un a, fun T H h => Sep.pure (b T H h) (fun _ => .non)⟩
theorem er_start : ∀ (ms : List PM) (vs : List V) (ds : List D) (n : Nat), vs.length = ms.length → ds.length = ms.length → ms.length ≤ n →
    ∃ E, ER (vs.map some ++ List.replicate (n - vs.length) none) (startS ms ds n) E ∧ ∀ (T : List Ent) (H : Hp), Sep [] H (argE ms vs ds ++ T) → Sep [] H (E ++ T)
  | [], [], [], n, _, _, _ => by
    obtain ⟨E, a, b⟩ := er_un n
    exact ⟨E, a, b⟩
  | [], [], _ :: _, _, _, h, _ => by simp at h
  | [], _ :: _, _, _, h, _, _ => by simp at h
  | _ :: _, [], _, _, h, _, _ => by simp at h
  | _ :: _, _ :: _, [], _, _, h, _ => by simp at h
  | m :: ms, v :: vs, d :: ds, n, h1, h2, h3 => by
    have h1 : vs.length = ms.length := by simpa using h1
    have h2 : ds.length = ms.length := by simpa using h2
    have h3 : ms.length + 1 ≤ n := h3
    obtain ⟨E, a, b⟩ := er_start ms vs ds (n - 1) h1 h2 (by omega)
    have e : n - (v :: vs).length = n - 1 - vs.length := by simp; omega
    refine ⟨(v, m.dep, d) :: E, ?_, fun T H h => ?_⟩
    · rw [e]
      have : m.slot d = .v m.dep d := by cases m <;> rfl
      show ER (some v :: (vs.map some ++ _)) (m.slot d :: startS ms ds (n - 1)) _
      rw [this]
      exact .v a
    · have h' : Sep [] H (argE ms vs ds ++ (v, m.dep, d) :: T) := Sep.perm h List.perm_middle.symm
      exact (b _ H h').perm List.perm_middle
theorem io_end : ∀ {ms : List PM} {σ : L2.St} {ε : Sg} {E : List Ent} {vs : List V} {io : List D}, ER σ ε E → ioEnd ms ε = some io → vs.length = ms.length → (∀ (j n : Nat), ms[j]? = some (.io n) → σ[j]? = (vs[j]?).map some) → ∀ (T : List Ent) (H : Hp), Sep [] H (E ++ T) → Sep [] H (ioE ms vs io ++ T)
  | [], _, _, E, vs, io, a, h, hl, hv, T, H, s => by
    cases vs with
    | nil =>
      cases io with
      | nil => exact Sep.dropN s
      | cons d io => simp [ioEnd] at h
    | cons v vs => simp at hl
  | m :: ms, _, _, E, [], io, a, h, hl, hv, T, H, s => by simp at hl
  | m :: ms, _, _, _, v :: vs, io, .nil, h, hl, hv, T, H, s => by cases m <;> simp [ioEnd] at h
  | m :: ms, _, _, _, v :: vs, io, .un (o := o) (σ := σ) a, h, hl, hv, T, H, s => by
    have s' := s.drop
    have hv' : ∀ (j n : Nat), ms[j]? = some (.io n) → σ[j]? = (vs[j]?).map some := fun j n q => by simpa using hv (j + 1) n (by simpa using q)
    cases m with
    | io n => simp [ioEnd] at h
    | sh => exact io_end a (by simpa [ioEnd] using h) (by simpa using hl) hv' T H s'
    | own n => exact io_end a (by simpa [ioEnd] using h) (by simpa using hl) hv' T H s'
  | m :: ms, _, _, _, v :: vs, io, .v (x := x) (n := kk) (d := d) (σ := σ) (ε := ε) a, h, hl, hv, T, H, s => by
    have hv' : ∀ (j n : Nat), ms[j]? = some (.io n) → σ[j]? = (vs[j]?).map some := fun j n q => by simpa using hv (j + 1) n (by simpa using q)
    cases m with
    | sh => exact io_end a (by simpa [ioEnd] using h) (by simpa using hl) hv' T H s.drop
    | own n => exact io_end a (by simpa [ioEnd] using h) (by simpa using hl) hv' T H s.drop
    | io n =>
      have h0 := hv 0 n rfl
      simp only [List.getElem?_cons_zero, Option.map_some, Option.some.injEq] at h0
      subst h0
      simp only [ioEnd] at h
      split at h
      · rename_i hk
        subst hk
        cases q : ioEnd ms ε with
        | none => rw [q] at h; cases h
        | some io' =>
          rw [q] at h
          cases h
          have := io_end a q (by simpa using hl) hv' ((x, kk, d) :: T) H (Sep.perm s List.perm_middle.symm)
          exact this.perm List.perm_middle
      · cases h
end
theorem ioGam_at : ∀ {ms : List PM} {gs : List Nat} {j n : Nat}, ioGam ms gs = true → ms[j]? = some (.io n) → gs[j]? = some 1000
  | [], _, _, _, _, h => by simp at h
  | m :: ms, [], _, _, h, _ => by cases m <;> simp [ioGam] at h
  | m :: ms, g :: gs, 0, n, h, hj => by
    cases hj
    simp only [ioGam, Bool.and_eq_true, beq_iff_eq] at h
    rw [h.1]; rfl
  | m :: ms, g :: gs, j + 1, n, h, hj => by
    have h' : ioGam ms gs = true := by
      cases m <;> simp only [ioGam, Bool.and_eq_true] at h <;> first | exact h | exact h.2
    exact ioGam_at (j := j) h' (by simpa using hj)
/-- the facts of one def -/
structure RowOk (T : Tb) (B : List Str) (KW : List (String × Nat × List Str × List Nat)) (K : PySem.W.Frag) (mg : Str → Option Value) (nm : String) (fd : Fd) : Prop where
  ex : ∃ (a : Addr) (fo : FuncData) (x qual : Str) (params : Arguments) (body : List Stmt) (scope : Scope) (N ps : List Str), mg (nm : Str) = some (.ref a) ∧ FunD K x qual params body scope [] [] a fo ∧ Binds K fo ps [] ∧ FnScope N ps scope ∧
    chkSs T B ⟨N, scope, fun _ => true, KW⟩ fd.body body = true ∧ fd.gam.length = N.length ∧ ps.length = fd.pm.length ∧ ioGam fd.pm fd.gam = true ∧ ∀ e ∈ KW, e.1 = nm → KB K fo ps e.2.1 e.2.2.1 e.2.2.2
section
variable {T : Tb} {cl : Cl} {B : List Str} {KW : List (String × Nat × List Str × List Nat)} {P : Program} {w : World} {K : PySem.W.Frag} {mg : Str → Option Value} {base : Heap}
theorem fn_step {k : Nat} {nm : String} {fd : Fd} (hT : T nm = some fd) {a : Addr} {fo : FuncData} {x qual : Str} {params : Arguments} {body : List Stmt} {scope : Scope} {N ps : List Str} (F : FunD K x qual params body scope [] [] a fo) (S : FnScope N ps scope)
    (hck : chkSs T B ⟨N, scope, fun _ => true, KW⟩ fd.body body = true) (hg : fd.gam.length = N.length) (hp : ps.length = fd.pm.length) (hio : ioGam fd.pm fd.gam = true) (sys : ∃ o, base.get? sysModules = some o) (fr : ∀ x ∈ B, mg x = none)
    (ih : ∀ f fd, T f = some fd → ∃ a fo ps, mg (f : Str) = some (.ref a) ∧ PySem.W.keepIn K (.ref a) = true ∧ Binds K fo ps [] ∧ FnG P w K mg base (L2.CX P w) k a fo ps (spF cl fd.pm (callK T k f)) ∧ ∀ e ∈ KW, e.1 = f → KB K fo ps e.2.1 e.2.2.1 e.2.2.2) :
    FnG P w K mg base (L2.CX P w) (k + 1) a fo ps (spF cl fd.pm (callK T (k + 1) nm)) := by
  refine FnG.of F S (fun vs H Q E h => h.1.trans hp.symm) fun cdv A outer s H vs Q E hr hgd hsp => ?_
  have G : Good T cl B k (fun cls d _ H => E cls d H) ⟨N, scope, fun _ => true, KW⟩ (cxOf (L2.CX P w) P w K mg base N qual scope a cdv A outer s H E) := ⟨rfl, S.nd, rfl, rfl, rfl, hr, hgd, sys, takes_of rfl rfl rfl rfl, fr, ih⟩
  refine ⟨_, okSs T cl B k fd.gam fd.rd fd.body _ _ _ G (passes_of rfl) body hck, ?_⟩
  obtain ⟨hv, ds, r, T', hd, hc, sp, res⟩ := hsp
  have hc2 : runF (orc T k) fd ds = some r := by
    rw [show callK T (k + 1) nm ds = (T nm).bind fun fd => runF (orc T k) fd ds from rfl, hT] at hc
    exact hc
  unfold runF at hc2
  split at hc2
  · rename_i hl
    obtain ⟨E0, a1, b1⟩ := er_start fd.pm vs ds fd.gam.length hv hd (by rw [hl.1]; exact hl.2)
    have e1 : L2.start N vs = vs.map some ++ List.replicate (fd.gam.length - vs.length) none := by unfold L2.start; rw [hg]
    refine ⟨startS fd.pm ds fd.gam.length, T', ⟨E0, by rw [e1]; exact a1, b1 T' H sp⟩, ?_⟩
    -- the io parameters at the end
    have fin : ∀ {σ' : L2.St} {ε' : Sg} {io : List D} {T2 : List Ent} {H' : Hp}, Nr fd.gam (L2.start N vs) σ' → State σ' ε' T2 H' → ioEnd fd.pm ε' = some io → Sep [] H' (ioE fd.pm vs io ++ T2) := fun {σ' ε' io T2 H'} n st he => by
      obtain ⟨E, a2, b2⟩ := st
      refine io_end a2 he hv (fun j nn hj => ?_) T2 H' b2
      rw [n.2 j (ioGam_at hio hj), e1]
      have hj' : j < vs.length := by rw [hv]; exact (List.getElem?_eq_some_iff.mp hj).1
      rw [List.getElem?_append_left (by simpa using hj'), List.getElem?_map]
    cases q : execs (orc T k) fd.gam fd.rd fd.body (startS fd.pm ds fd.gam.length) with
    | st => rw [q] at hc2; cases hc2
    | bk ε => rw [q] at hc2; cases hc2
    | ct ε => rw [q] at hc2; cases hc2
    | nx ε =>
      rw [q] at hc2
      obtain ⟨io, hio2, rfl⟩ := Option.map_eq_some_iff.mp hc2
      intro σ' H' n st
      exact res H' .non (Sep.pure (fin n st hio2) (fun _ => .non))
    | rt nn d ε =>
      rw [q] at hc2
      obtain ⟨io, hio2, rfl⟩ := Option.map_eq_some_iff.mp hc2
      intro σ' H' v n st
      exact res H' v ((fin n st hio2).perm List.perm_middle)
    | ex c d ε =>
      rw [q] at hc2
      obtain ⟨io, hio2, rfl⟩ := Option.map_eq_some_iff.mp hc2
      intro σ' H' dd x n hx st
      exact res H' dd x hx ((fin n st hio2).perm List.perm_middle)
  · cases hc2
theorem fn_all (rows : ∀ f fd, T f = some fd → RowOk T B KW K mg f fd) (sys : ∃ o, base.get? sysModules = some o) (fr : ∀ x ∈ B, mg x = none) : ∀ k f fd, T f = some fd → ∃ a fo ps, mg (f : Str) = some (.ref a) ∧ PySem.W.keepIn K (.ref a) = true ∧ Binds K fo ps [] ∧ FnG P w K mg base (L2.CX P w) k a fo ps (spF cl fd.pm (callK T k f)) ∧ ∀ e ∈ KW, e.1 = f → KB K fo ps e.2.1 e.2.2.1 e.2.2.2
  | 0, f, fd, h => by
    obtain ⟨a, fo, x, qual, params, body, scope, N, ps, hm, F, hb, S, hck, hg, hp, hio, hkw⟩ := (rows f fd h).ex
    exact ⟨a, fo, ps, hm, F.kp, hb, ⟨fun vs H Q E h => h.1.trans hp.symm, fun A outer s H args us vs Q E _ _ _ _ _ hs => by
      obtain ⟨_, ds, r, T', _, hc, _⟩ := hs
      cases hc⟩, hkw⟩
  | k + 1, f, fd, h => by
    obtain ⟨a, fo, x, qual, params, body, scope, N, ps, hm, F, hb, S, hck, hg, hp, hio, hkw⟩ := (rows f fd h).ex
    exact ⟨a, fo, ps, hm, F.kp, hb, fn_step h F S hck hg hp hio sys fr (fn_all rows sys fr k), hkw⟩
end
end Kr

set_option Elab.async false
set_option linter.all false
set_option maxRecDepth 100000
set_option maxHeartbeats 1000000
namespace Kr
open PySem PySem.Spec PyProof.Rows L2
abbrev KWs := List (String × Nat × List Str × List Nat)
def tbOf (L : List (String × Fd)) : Tb := fun f => L.lookup f
inductive AllR (R : String → Fd → Prop) : List (String × Fd) → Prop
  | nil : AllR R []
  | cons {f : String} {fd : Fd} {L : List (String × Fd)} : R f fd → AllR R L → AllR R ((f, fd) :: L)
theorem AllR.get {R : String → Fd → Prop} : ∀ {L : List (String × Fd)}, AllR R L → ∀ {f : String} {fd : Fd}, L.lookup f = some fd → R f fd
  | _, .nil, f, fd, h => by cases h
  | _, .cons (f := g) (fd := gd) r a, f, fd, h => by
    rw [List.lookup_cons] at h
    cases q : f == g with
    | true =>
      rw [q] at h
      cases h
      rw [eq_of_beq q]
      exact r
    | false =>
      rw [q] at h
      exact a.get h
def fnScopeC (N P : List Str) (sc : Scope) : Bool := decide (sc.kind = .function) && !sc.isCoroutine && !sc.isGenerator && decide N.Nodup && decide (N.take P.length = P) &&
  P.all (fun x => decide (sc.names.lookup x = some .local) || decide (sc.names.lookup x = some .cell)) && sc.names.all fun y => decide (y.2 ≠ .free)
theorem fnScope_of {N P : List Str} {sc : Scope} (h : fnScopeC N P sc = true) : FnScope N P sc := by
  unfold fnScopeC at h
  simp only [Bool.and_eq_true, Bool.not_eq_true', decide_eq_true_eq, List.all_eq_true, Bool.or_eq_true] at h
  obtain ⟨⟨⟨⟨⟨⟨h1, h2⟩, h3⟩, h4⟩, h5⟩, h6⟩, h7⟩ := h
  exact ⟨h1, h2, h3, h4, h5, h6, h7⟩
/-- how the keywords of a call bind, of every object -/
def KBf (n qual : Str) (params : Arguments) (body : List Stmt) (scope : Scope) (ps : List Str) (e : String × Nat × List Str × List Nat) : Prop :=
  ∀ (kV doc pm : Value) (an : Option Addr) (cdv ct : Value) (us ws : List Value), us.length = e.2.1 → ws.length = e.2.2.1.length → ∃ zs, permG e.2.2.2 (us ++ ws) = some zs ∧ bindArgs (PySem.W.fnOf n qual params body scope .none kV doc pm an cdv ct) ⟨us, e.2.2.1.zip ws⟩ = pure (ps.zip zs)
theorem kwc {α : Type} {P : α → Prop} {a : α} {l : List α} (h : P a) (t : ∀ e ∈ l, P e) : ∀ e ∈ a :: l, P e := fun e he => (List.mem_cons.mp he).elim (fun q => q ▸ h) (t e)
section
variable {fa : List He.Fa} {fn : List He.DefD} {K : PySem.W.Frag} {h : Heap} {mg : Str → Option Value} {T : Tb} {B : List Str} {KW : KWs}
theorem row_of (c : He.SaysD fa fn K) (X : K.In h) (G : h.Ns mainGlobals mg) (i j : Nat) {nm : String} {n : Str} {params : Arguments} {body : List Stmt} {scope : Scope} {N ps : List Str} {fd : Fd}
    (hi : fn[i]? = some ⟨((nm : Str), none), n, n, params, body, scope, [], []⟩) (hj : fa[j]? = some (.glo (nm : Str)))
    (hb : ∀ (kV doc pm : Value) (an : Option Addr) (cdv ct : Value) (us : List Value), us.length = ps.length → bindArgs (PySem.W.fnOf n n params body scope .none kV doc pm an cdv ct) ⟨us, []⟩ = pure (ps.zip us))
    (S : fnScopeC N ps scope = true) (hc : chkSs T B ⟨N, scope, fun _ => true, KW⟩ fd.body body = true) (hg : fd.gam.length = N.length) (hp : ps.length = fd.pm.length) (hio : ioGam fd.pm fd.gam = true)
    (hk : ∀ e ∈ KW, e.1 = nm → KBf n n params body scope ps e) : RowOk T B KW K mg nm fd := by
  obtain ⟨fo, F⟩ := c.def_ i hi
  have F' : FunD K n n params body scope [] [] (He.fAd K ((nm : Str), none)) fo := F
  refine ⟨He.fAd K ((nm : Str), none), fo, n, n, params, body, scope, N, ps, He.glo_ok X G (c.fact j hj), F', FunD.bindsN F' hb, fnScope_of S, hc, hg, hp, hio, fun e he hn s us ws _ h1 h2 => ?_⟩
  obtain ⟨oc, od, dV, kV, doc, pm, an, cdv, ct, osl, rfl, lk, hcd, hD, hK⟩ := F'.ex
  rcases hD with ⟨_, rfl⟩ | ⟨q, _⟩
  · obtain ⟨zs, z1, z2⟩ := hk e he hn kV doc pm an cdv ct us ws h1 h2
    exact ⟨zs, z1, .of_eq z2⟩
  · exact absurd rfl q
theorem free_of (c : He.SaysD fa fn K) (X : K.In h) (G : h.Ns mainGlobals mg) (hB : ∀ x ∈ B, ∃ j : Nat, fa[j]? = some (.free x)) : ∀ x ∈ B, mg x = none := fun x hx => by
  obtain ⟨j, hj⟩ := hB x hx
  exact He.free_ok X G (c.fact j hj)
/-- names that the facts hold as free -/
theorem frees_at {ks : List He.Fa} {x : Str} (h : ks.any (fun f => match f with | .free y => decide (y = x) | _ => false) = true) : ∃ j : Nat, ks[j]? = some (.free x) := by
  obtain ⟨f, hf, hd⟩ := List.any_eq_true.mp h
  cases f <;> first | (cases hd; done) | skip
  obtain rfl := of_decide_eq_true hd
  exact List.mem_iff_getElem?.mp hf
end
theorem law_sp {T : Tb} {cl : Cl} {k n : Nat} (ev : ∀ ns : List Int, ns.length ≤ n → callK T k "law" [.list (ns.map PyData.int)] = some (.ret 0 (.bool true) [])) (H : Hp) (a : Addr) (ns : List Int) (o : Obj) (hn : ns.length ≤ n) (ha : H a = some (.frz o (.lst (ns.map V.int)))) :
    spF cl [.sh] (callK T k "law") [.ref a] H (fun v _ => v = .bl true) fun _ _ _ => False := by
  have all : ∀ ns : List Int, FzAll (fun b => b = a) H (ns.map V.int) (ns.map PyData.int) := fun ns => by
    induction ns with
    | nil => exact .nil
    | cons i r ih => exact .cons (.int i) ih
  refine ⟨rfl, [.list (ns.map PyData.int)], _, [], rfl, ev ns hn, ⟨fun b => b = a, [[]], fun b hb => ?_, .cons ⟨.frz rfl ha (all ns), rfl⟩ .nil, by simp, by simp⟩, fun H' v s => ?_⟩
  · subst hb
    rw [ha]
    exact fun q => nomatch q
  · obtain ⟨F, fz⟩ := s.fz
    exact fz.bool_
end Kr

set_option Elab.async false
set_option linter.all false
set_option maxRecDepth 100000
set_option maxHeartbeats 0
namespace Ir
open PySem Kr
/-- is_whole: 0 value -/
def f_is_whole : Fd := ⟨[.sh], [0], 0,
  (.cons (.ret (.and (.b1 .isInt (.var 0)) (.not (.b1 .isBool (.var 0))))) .nil)⟩
/-- is_between: 0 value, 1 low, 2 high -/
def f_is_between : Fd := ⟨[.sh, .sh, .sh], [0, 0, 0], 0,
  (.cons (.ifs (.not (.call "is_whole" (.cons (.var 0) .nil)))
  (.cons (.ret (.cst (.bool false))) .nil)
  .nil) (.cons (.ret (.and (.or (.cmp .is (.var 1) (.cst .none)) (.cmp .ge (.var 0) (.var 1))) (.or (.cmp .is (.var 2) (.cst .none)) (.cmp .le (.var 0) (.var 2))))) .nil))⟩
/-- is_road: 0 houses, 1 value -/
def f_is_road : Fd := ⟨[.sh, .sh], [0, 0], 0,
  (.cons (.ifs (.or (.not (.b1 .isTuple (.var 1))) (.or (.cmp .ne (.b1 .len (.var 1)) (.cst (.int 3))) (.not (.call "is_between" (.cons (.ix (.var 1) (.cst (.int 0))) (.cons (.cst (.int 0)) (.cons (.op .sub (.var 0) (.cst (.int 1))) .nil)))))))
  (.cons (.ret (.cst (.bool false))) .nil)
  .nil) (.cons (.ret (.and (.call "is_between" (.cons (.ix (.var 1) (.cst (.int 1))) (.cons (.op .add (.ix (.var 1) (.cst (.int 0))) (.cst (.int 1))) (.cons (.op .sub (.var 0) (.cst (.int 1))) .nil)))) (.call "is_between" (.cons (.ix (.var 1) (.cst (.int 2))) (.cons (.cst (.int 1)) (.cons (.cst .none) .nil)))))) .nil))⟩
/-- is_net: 0 value, 1 houses, 2 roads, 3 road, 4 at -/
def f_is_net : Fd := ⟨[.sh], [0, 0, 0, 0, 0], 0,
  (.cons (.ifs (.or (.not (.b1 .isTuple (.var 0))) (.or (.cmp .ne (.b1 .len (.var 0)) (.cst (.int 2))) (.not (.call "is_between" (.cons (.ix (.var 0) (.cst (.int 0))) (.cons (.cst (.int 1)) (.cons (.cst .none) .nil)))))))
  (.cons (.ret (.cst (.bool false))) .nil)
  .nil) (.cons (.unp (.cons (.name 1) (.cons (.name 2) .nil)) (.var 0)) (.cons (.ifs (.or (.not (.b1 .isList (.var 2))) (.cmp .ne (.comp 0 [3] (.name 3) (.seq (.var 2)) (.not (.call "is_road" (.cons (.var 1) (.cons (.var 3) .nil)))) (.var 3)) (.lst 0 .nil)))
  (.cons (.ret (.cst (.bool false))) .nil)
  .nil) (.cons (.ret (.cmp .eq (.comp 0 [4] (.name 4) (.range2 (.cst (.int 1)) (.b1 .len (.var 2))) (.cmp .ge (.sl (.ix (.var 2) (.op .sub (.var 4) (.cst (.int 1)))) .no (.ex (.cst (.int 2)))) (.sl (.ix (.var 2) (.var 4)) .no (.ex (.cst (.int 2))))) (.var 4)) (.lst 0 .nil))) .nil))))⟩
/-- check_net: 0 net -/
def f_check_net : Fd := ⟨[.sh], [0], 0,
  (.cons (.ifs (.not (.call "is_net" (.cons (.var 0) .nil)))
  (.cons .stuck .nil)
  .nil) .nil)⟩
/-- is_standing: 0 net, 1 value, 2 item, 3 road -/
def f_is_standing : Fd := ⟨[.sh, .sh], [0, 0, 0, 0], 0,
  (.cons (.ifs (.or (.not (.b1 .isList (.var 1))) (.cmp .ne (.b1 .len (.var 1)) (.b1 .len (.ix (.var 0) (.cst (.int 1))))))
  (.cons (.ret (.cst (.bool false))) .nil)
  .nil) (.cons (.ret (.cmp .eq (.comp 0 [2, 3] (.tup (.cons (.name 2) (.cons (.name 3) .nil))) (.zip (.var 1) (.ix (.var 0) (.cst (.int 1)))) (.not (.call "is_between" (.cons (.var 2) (.cons (.cst (.int 0)) (.cons (.ix (.var 3) (.cst (.int 2))) .nil))))) (.var 2)) (.lst 0 .nil))) .nil))⟩
/-- check_standing: 0 net, 1 standing -/
def f_check_standing : Fd := ⟨[.sh, .sh], [0, 0], 0,
  (.cons (.expr (.call "check_net" (.cons (.var 0) .nil))) (.cons (.ifs (.not (.call "is_standing" (.cons (.var 0) (.cons (.var 1) .nil))))
  (.cons .stuck .nil)
  .nil) .nil))⟩
/-- is_house: 0 net, 1 value -/
def f_is_house : Fd := ⟨[.sh, .sh], [0, 0], 0,
  (.cons (.ret (.call "is_between" (.cons (.var 1) (.cons (.cst (.int 0)) (.cons (.op .sub (.ix (.var 0) (.cst (.int 0))) (.cst (.int 1))) .nil))))) .nil)⟩
/-- check_house: 0 net, 1 house -/
def f_check_house : Fd := ⟨[.sh, .sh], [0, 0], 0,
  (.cons (.ifs (.not (.call "is_house" (.cons (.var 0) (.cons (.var 1) .nil))))
  (.cons .stuck .nil)
  .nil) .nil)⟩
/-- neighbours_of: 0 net, 1 house, 2 found, 3 low, 4 high, 5 many -/
def f_neighbours_of : Fd := ⟨[.sh, .sh], [0, 0, 0, 0, 0, 0], 0,
  (.cons (.asg 2 (.comp 0 [3, 4, 5] (.tup (.cons (.name 3) (.cons (.name 4) (.cons (.name 5) .nil)))) (.seq (.ix (.var 0) (.cst (.int 1)))) (.cmp .eq (.var 4) (.var 1)) (.var 3))) (.cons (.ret (.b1 .sorted (.op .add (.var 2) (.comp 0 [3, 4, 5] (.tup (.cons (.name 3) (.cons (.name 4) (.cons (.name 5) .nil)))) (.seq (.ix (.var 0) (.cst (.int 1)))) (.cmp .eq (.var 3) (.var 1)) (.var 4))))) .nil))⟩
/-- directions_of: 0 net, 1 low, 2 high, 3 many -/
def f_directions_of : Fd := ⟨[.sh], [0, 0, 0, 0], 0,
  (.cons (.ret (.b1 .sorted (.op .add (.comp 0 [1, 2, 3] (.tup (.cons (.name 1) (.cons (.name 2) (.cons (.name 3) .nil)))) (.seq (.ix (.var 0) (.cst (.int 1)))) (.cst (.bool true)) (.tup (.cons (.var 1) (.cons (.var 2) .nil)))) (.comp 0 [1, 2, 3] (.tup (.cons (.name 1) (.cons (.name 2) (.cons (.name 3) .nil)))) (.seq (.ix (.var 0) (.cst (.int 1)))) (.cst (.bool true)) (.tup (.cons (.var 2) (.cons (.var 1) .nil))))))) .nil)⟩
/-- road_at: 0 net, 1 one, 2 other, 3 road -/
def f_road_at : Fd := ⟨[.sh, .sh, .sh], [0, 0, 0, 0], 0,
  (.cons (.ret (.mth .index (.comp 0 [3] (.name 3) (.seq (.ix (.var 0) (.cst (.int 1)))) (.cst (.bool true)) (.sl (.var 3) .no (.ex (.cst (.int 2))))) (.tup (.cons (.b2 .min (.var 1) (.var 2)) (.cons (.b2 .max (.var 1) (.var 2)) .nil))))) .nil)⟩
/-- keys_in: 0 net, 1 standing, 2 one, 3 other, 4 at -/
def f_keys_in : Fd := ⟨[.sh, .sh, .sh, .sh], [0, 0, 0, 0, 0], 0,
  (.cons (.asg 4 (.call "road_at" (.cons (.var 0) (.cons (.var 2) (.cons (.var 3) .nil))))) (.cons (.ret (.ife (.cmp .gt (.var 3) (.var 2)) (.ix (.var 1) (.var 4)) (.op .sub (.ix (.ix (.ix (.var 0) (.cst (.int 1))) (.var 4)) (.cst (.int 2))) (.ix (.var 1) (.var 4))))) .nil))⟩
def b_lengths_from_0 : ISs := (.cons (.ifs (.cmp .isnot (.ix (.var 3) (.var 5)) (.cst .none))
  (.cons (.asg 7 (.op .add (.ix (.var 3) (.var 5)) (.call "keys_in" (.cons (.var 0) (.cons (.var 1) (.cons (.var 5) (.cons (.var 6) .nil))))))) (.cons (.ifs (.or (.cmp .is (.ix (.var 3) (.var 6)) (.cst .none)) (.cmp .lt (.var 7) (.ix (.var 3) (.var 6))))
  (.cons (.setix 3 (.var 6) (.var 7)) .nil)
  .nil) .nil))
  .nil) .nil)
def b_lengths_from_1 : ISs := (.cons (.for_ (.tup (.cons (.name 5) (.cons (.name 6) .nil))) (.seq (.call "directions_of" (.cons (.var 0) .nil))) b_lengths_from_0) .nil)
/-- lengths_from: 0 net, 1 standing, 2 sources, 3 found, 4 turn, 5 one, 6 other, 7 length, 8 house -/
def f_lengths_from : Fd := ⟨[.sh, .sh, .sh], [0, 0, 0, 1, 0, 0, 0, 0, 0], 0,
  (.cons (.asg 3 (.comp 0 [8] (.name 8) (.range1 (.ix (.var 0) (.cst (.int 0)))) (.cst (.bool true)) (.ife (.cmp .isin (.var 8) (.var 2)) (.cst (.int 0)) (.cst .none)))) (.cons (.for_ (.name 4) (.range1 (.ix (.var 0) (.cst (.int 0)))) b_lengths_from_1) (.cons (.ret (.var 3)) .nil)))⟩
def b_free_ahead_0 : ISs := (.cons (.asg 3 (.op .add (.var 3) (.comp 0 [5] (.name 5) (.seq (.call "neighbours_of" (.cons (.var 0) (.cons (.var 4) .nil)))) (.cmp .eq (.call "keys_in" (.cons (.var 0) (.cons (.var 1) (.cons (.var 4) (.cons (.var 5) .nil))))) (.cst (.int 0))) (.var 5)))) .nil)
/-- free_ahead: 0 net, 1 standing, 2 houses, 3 found, 4 one, 5 mate -/
def f_free_ahead : Fd := ⟨[.sh, .sh, .sh], [0, 0, 0, 0, 0, 0], 0,
  (.cons (.asg 3 (.lst 0 .nil)) (.cons (.for_ (.name 4) (.seq (.var 2)) b_free_ahead_0) (.cons (.ret (.b1 .sset (.var 3))) .nil)))⟩
def b_stuck_houses_0 : ISs := (.cons (.asg 5 (.op .add (.var 5) (.comp 0 [10] (.name 10) (.seq (.call "free_ahead" (.cons (.var 0) (.cons (.var 1) (.cons (.var 5) .nil))))) (.cmp .notin (.var 10) (.var 5)) (.var 10)))) .nil)
def b_stuck_houses_1 : ISs := (.cons (.asg 5 (.comp 0 [10] (.name 10) (.seq (.call "neighbours_of" (.cons (.var 0) (.cons (.var 4) .nil)))) (.cmp .eq (.call "keys_in" (.cons (.var 0) (.cons (.var 1) (.cons (.var 4) (.cons (.var 10) .nil))))) (.cst (.int 0))) (.var 10))) (.cons (.for_ (.name 6) (.range1 (.b1 .len (.var 3))) b_stuck_houses_0) (.cons (.ifs (.cmp .isin (.var 4) (.var 5))
  (.cons (.app 2 (.var 4)) .nil)
  .nil) .nil)))
/-- stuck_houses: 0 net, 1 standing, 2 found, 3 houses, 4 house, 5 reached, 6 turn, 7 low, 8 high, 9 many, 10 mate -/
def f_stuck_houses : Fd := ⟨[.sh, .sh], [0, 0, 1, 0, 0, 0, 0, 0, 0, 0, 0], 0,
  (.cons (.tas [2, 3] (.cons (.lst 0 .nil) (.cons (.b1 .sset (.op .add (.comp 0 [7, 8, 9] (.tup (.cons (.name 7) (.cons (.name 8) (.cons (.name 9) .nil)))) (.seq (.ix (.var 0) (.cst (.int 1)))) (.cst (.bool true)) (.var 7)) (.comp 0 [7, 8, 9] (.tup (.cons (.name 7) (.cons (.name 8) (.cons (.name 9) .nil)))) (.seq (.ix (.var 0) (.cst (.int 1)))) (.cst (.bool true)) (.var 8)))) .nil))) (.cons (.for_ (.name 4) (.seq (.var 3)) b_stuck_houses_1) (.cons (.ret (.var 2)) .nil)))⟩
/-- leads_over: 0 net, 1 standing, 2 stuck, 3 one -/
def f_leads_over : Fd := ⟨[.sh, .sh, .sh, .sh], [0, 0, 0, 0], 0,
  (.cons (.ret (.call "lengths_from" (.cons (.var 0) (.cons (.var 1) (.cons (.b1 .sset (.op .add (.var 2) (.lst 0 (.cons (.var 3) .nil)))) .nil))))) .nil)⟩
/-- lead_in: 0 net, 1 standing, 2 one, 3 other -/
def f_lead_in : Fd := ⟨[.sh, .sh, .sh, .sh], [0, 0, 0, 0], 0,
  (.cons (.ret (.ife (.cmp .eq (.var 2) (.var 3)) (.cst (.int 0)) (.ix (.call "leads_over" (.cons (.var 0) (.cons (.var 1) (.cons (.call "stuck_houses" (.cons (.var 0) (.cons (.var 1) .nil))) (.cons (.var 2) .nil))))) (.var 3)))) .nil)⟩
/-- check_pair: 0 net, 1 standing, 2 one, 3 other -/
def f_check_pair : Fd := ⟨[.sh, .sh, .sh, .sh], [0, 0, 0, 0], 0,
  (.cons (.expr (.call "check_standing" (.cons (.var 0) (.cons (.var 1) .nil)))) (.cons (.expr (.call "check_house" (.cons (.var 0) (.cons (.var 2) .nil)))) (.cons (.expr (.call "check_house" (.cons (.var 0) (.cons (.var 3) .nil)))) .nil)))⟩
/-- check_ends: 0 net, 1 standing, 2 one, 3 other -/
def f_check_ends : Fd := ⟨[.sh, .sh, .sh, .sh], [0, 0, 0, 0], 0,
  (.cons (.expr (.call "check_pair" (.cons (.var 0) (.cons (.var 1) (.cons (.var 2) (.cons (.var 3) .nil)))))) (.cons (.ifs (.cmp .notin (.var 3) (.call "neighbours_of" (.cons (.var 0) (.cons (.var 2) .nil))))
  (.cons .stuck .nil)
  .nil) .nil))⟩
/-- fewest_keys: 0 net, 1 standing, 2 one, 3 other -/
def f_fewest_keys : Fd := ⟨[.sh, .sh, .sh, .sh], [0, 0, 0, 0], 0,
  (.cons (.expr (.call "check_ends" (.cons (.var 0) (.cons (.var 1) (.cons (.var 2) (.cons (.var 3) .nil)))))) (.cons (.ret (.op .sub (.call "keys_in" (.cons (.var 0) (.cons (.var 1) (.cons (.var 2) (.cons (.var 3) .nil))))) (.call "lead_in" (.cons (.var 0) (.cons (.var 1) (.cons (.var 2) (.cons (.var 3) .nil))))))) .nil))⟩
/-- most_keys: 0 net, 1 standing, 2 one, 3 other -/
def f_most_keys : Fd := ⟨[.sh, .sh, .sh, .sh], [0, 0, 0, 0], 0,
  (.cons (.expr (.call "check_ends" (.cons (.var 0) (.cons (.var 1) (.cons (.var 2) (.cons (.var 3) .nil)))))) (.cons (.ret (.op .add (.call "keys_in" (.cons (.var 0) (.cons (.var 1) (.cons (.var 2) (.cons (.var 3) .nil))))) (.call "lead_in" (.cons (.var 0) (.cons (.var 1) (.cons (.var 3) (.cons (.var 2) .nil))))))) .nil))⟩
/-- _law_hash: 0 _law_seed, 1 _law_index, 2 _law_mixed -/
def f__law_hash : Fd := ⟨[.sh, .sh], [0, 0, 0], 0,
  (.cons (.asg 2 (.op .mod (.b1 .int (.op .add (.op .add (.op .add (.op .mul (.var 0) (.cst (.int 1140671))) (.op .mul (.op .mul (.cst (.int 27644437)) (.var 1)) (.var 1))) (.op .mul (.cst (.int 131)) (.var 1))) (.cst (.int 19)))) (.cst (.int 2147483629)))) (.cons (.asg 2 (.op .mod (.b1 .int (.op .add (.op .add (.op .mul (.var 2) (.var 2)) (.op .mul (.cst (.int 62089)) (.var 1))) (.cst (.int 32416187)))) (.cst (.int 2147483587)))) (.cons (.ret (.op .mod (.b1 .int (.op .mul (.var 2) (.cst (.int 48271)))) (.cst (.int 2147483647)))) .nil)))⟩
def b__law_random_0 : ISs := (.cons (.setix 0 (.cst (.int 2)) (.op .add (.ix (.var 0) (.cst (.int 2))) (.cst (.int 1)))) (.cons (.asg 2 (.op .add (.op .mul (.var 2) (.cst (.int 2147483587))) (.call "_law_hash" (.cons (.ix (.var 0) (.cst (.int 1))) (.cons (.ix (.var 0) (.cst (.int 2))) .nil))))) .nil))
/-- _law_random: 0 _law_generator_here, 1 _law_bound, 2 _law_drawn_here, 3 _law_turn -/
def f__law_random : Fd := ⟨[.io 1, .sh], [1000, 0, 0, 0], 0,
  (.cons (.ifs (.cmp .gt (.ix (.var 0) (.cst (.int 0))) (.cst (.int 0)))
  (.cons (.asg 2 (.op .mod (.b1 .int (.ix (.var 0) (.cst (.int 0)))) (.var 1))) (.cons (.setix 0 (.cst (.int 0)) (.op .fdiv (.ix (.var 0) (.cst (.int 0))) (.var 1))) (.cons (.ret (.var 2)) .nil)))
  .nil) (.cons (.asg 2 (.cst (.int 0))) (.cons (.for_ (.name 3) (.range1 (.op .add (.cst (.int 1)) (.op .fdiv (.b1 .bitlen (.var 1)) (.cst (.int 30))))) b__law_random_0) (.cons (.ret (.op .mod (.b1 .int (.var 2)) (.var 1))) .nil))))⟩
/-- _law_cell: 0 _law_script, 1 _law_index -/
def f__law_cell : Fd := ⟨[.sh, .sh], [0, 0], 0,
  (.cons (.ifs (.cmp .lt (.var 1) (.b1 .len (.var 0)))
  (.cons (.ret (.ix (.var 0) (.var 1))) .nil)
  .nil) (.cons (.ret (.op .mod (.b1 .sum (.sl (.var 0) .no (.ex (.cst (.int 1))))) (.cst (.int 1000003)))) .nil))⟩
/-- _law_generator: 0 _law_script, 1 _law_index, 2 _law_seed -/
def f__law_generator : Fd := ⟨[.sh, .sh], [0, 0, 0], 1,
  (.cons (.asg 2 (.call "_law_cell" (.cons (.var 0) (.cons (.var 1) .nil)))) (.cons (.ret (.lst 0 (.cons (.op .mod (.b1 .int (.b2 .max (.op .sub (.var 2) (.op .pow (.cst (.int 10)) (.cst (.int 18)))) (.cst (.int 0)))) (.op .pow (.op .pow (.cst (.int 10)) (.cst (.int 60))) (.cst (.int 10)))) (.cons (.op .mod (.b1 .int (.var 2)) (.cst (.int 2147483647))) (.cons (.op .mul (.cst (.int 1000)) (.var 1)) .nil))))) .nil))⟩
def b__law_net_0 : ISs := (.cons (.ifs (.cmp .gt (.call "_law_random" (.cons (.var 0) (.cons (.cst (.int 3)) .nil))) (.cst (.int 0)))
  (.cons (.app 4 (.tup (.cons (.var 5) (.cons (.var 6) (.cons (.op .add (.cst (.int 1)) (.call "_law_random" (.cons (.var 0) (.cons (.var 2) .nil)))) .nil))))) .nil)
  .nil) .nil)
def b__law_net_1 : ISs := (.cons (.for_ (.name 6) (.range2 (.op .add (.var 5) (.cst (.int 1))) (.var 3)) b__law_net_0) .nil)
/-- _law_net: 0 _law_generator_here, 1 _law_most, 2 _law_keys, 3 _law_houses, 4 _law_roads, 5 _law_low, 6 _law_high -/
def f__law_net : Fd := ⟨[.io 1, .sh, .sh], [1000, 0, 0, 0, 1, 0, 0], 0,
  (.cons (.tas [3, 4] (.cons (.op .add (.cst (.int 1)) (.call "_law_random" (.cons (.var 0) (.cons (.var 1) .nil)))) (.cons (.lst 0 .nil) .nil))) (.cons (.for_ (.name 5) (.range1 (.var 3)) b__law_net_1) (.cons (.ret (.tup (.cons (.var 3) (.cons (.var 4) .nil)))) .nil)))⟩
/-- _law_standing: 0 _law_generator_here, 1 _law_here, 2 _law_low, 3 _law_high, 4 _law_many -/
def f__law_standing : Fd := ⟨[.io 1, .sh], [1000, 0, 0, 0, 0], 0,
  (.cons (.ret (.comp 0 [2, 3, 4] (.tup (.cons (.name 2) (.cons (.name 3) (.cons (.name 4) .nil)))) (.seq (.ix (.var 1) (.cst (.int 1)))) (.cst (.bool true)) (.call "_law_random" (.cons (.var 0) (.cons (.op .add (.var 4) (.cst (.int 1))) .nil))))) .nil)⟩
/-- _law_drawn: 0 _law_generator_here, 1 _law_most, 2 _law_keys, 3 _law_here -/
def f__law_drawn : Fd := ⟨[.io 1, .sh, .sh], [1000, 0, 0, 0], 0,
  (.cons (.asg 3 (.call "_law_net" (.cons (.var 0) (.cons (.var 1) (.cons (.var 2) .nil))))) (.cons (.ret (.lst 0 (.cons (.var 3) (.cons (.call "_law_standing" (.cons (.var 0) (.cons (.var 3) .nil))) .nil)))) .nil))⟩
def b__law_k_0 : ISs := (.cons (.ifs (.cmp .eq (.sl (.var 4) .no (.ex (.cst (.int 2)))) (.tup (.cons (.b2 .min (.var 2) (.var 3)) (.cons (.b2 .max (.var 2) (.var 3)) .nil))))
  (.cons (.ret (.ife (.cmp .gt (.var 3) (.var 2)) (.var 5) (.op .sub (.ix (.var 4) (.cst (.int 2))) (.var 5)))) .nil)
  .nil) .nil)
/-- _law_k: 0 _law_here, 1 _law_stand, 2 _law_one, 3 _law_other, 4 _law_road, 5 _law_item -/
def f__law_k : Fd := ⟨[.sh, .sh, .sh, .sh], [0, 0, 0, 0, 0, 0], 0,
  (.cons (.for_ (.tup (.cons (.name 4) (.cons (.name 5) .nil))) (.zip (.ix (.var 0) (.cst (.int 1))) (.var 1)) b__law_k_0) (.cons (.ret (.cst .none)) .nil))⟩
/-- _law_mates: 0 _law_here, 1 _law_house_there, 2 _law_mate, 3 _law_road -/
def f__law_mates : Fd := ⟨[.sh, .sh], [0, 0, 0, 0], 0,
  (.cons (.ret (.comp 0 [2] (.name 2) (.range1 (.ix (.var 0) (.cst (.int 0)))) (.and (.cmp .ne (.var 2) (.var 1)) (.cmp .ne (.comp 0 [3] (.name 3) (.seq (.ix (.var 0) (.cst (.int 1)))) (.cmp .eq (.sl (.var 3) .no (.ex (.cst (.int 2)))) (.tup (.cons (.b2 .min (.var 2) (.var 1)) (.cons (.b2 .max (.var 2) (.var 1)) .nil)))) (.cst (.int 1))) (.lst 0 .nil))) (.var 2))) .nil)⟩
/-- _law_can: 0 _law_here, 1 _law_stand, 2 _law_house_there, 3 _law_mate -/
def f__law_can : Fd := ⟨[.sh, .sh, .sh], [0, 0, 0, 0], 0,
  (.cons (.ret (.cmp .eq (.comp 0 [3] (.name 3) (.seq (.call "_law_mates" (.cons (.var 0) (.cons (.var 2) .nil)))) (.cmp .eq (.call "_law_k" (.cons (.var 0) (.cons (.var 1) (.cons (.var 3) (.cons (.var 2) .nil))))) (.cst (.int 0))) (.var 3)) (.lst 0 .nil))) .nil)⟩
def b__law_work_0 : ISs := (.cons (.app 3 (.ife (.cmp .eq (.ix (.var 4) (.cst (.int 0))) (.var 2)) (.op .add (.var 5) (.cst (.int 1))) (.ife (.cmp .eq (.ix (.var 4) (.cst (.int 1))) (.var 2)) (.op .sub (.var 5) (.cst (.int 1))) (.var 5)))) .nil)
/-- _law_work: 0 _law_here, 1 _law_stand, 2 _law_house_there, 3 _law_found, 4 _law_road, 5 _law_item -/
def f__law_work : Fd := ⟨[.sh, .sh, .sh], [0, 0, 0, 1, 0, 0], 0,
  (.cons (.asg 3 (.lst 0 .nil)) (.cons (.for_ (.tup (.cons (.name 4) (.cons (.name 5) .nil))) (.zip (.ix (.var 0) (.cst (.int 1))) (.var 1)) b__law_work_0) (.cons (.ret (.var 3)) .nil)))⟩
def b__law_all_0 : ISs := (.cons (.ifs (.call "_law_can" (.cons (.var 0) (.cons (.ix (.var 2) (.var 3)) (.cons (.var 4) .nil))))
  (.cons (.asg 5 (.call "_law_work" (.cons (.var 0) (.cons (.ix (.var 2) (.var 3)) (.cons (.var 4) .nil))))) (.cons (.ifs (.cmp .notin (.var 5) (.var 2))
  (.cons (.app 2 (.var 5)) .nil)
  .nil) .nil))
  .nil) .nil)
def b__law_all_1 : ISs := (.cons (.for_ (.name 4) (.range1 (.ix (.var 0) (.cst (.int 0)))) b__law_all_0) (.cons (.asg 3 (.op .add (.var 3) (.cst (.int 1)))) .nil))
/-- _law_all: 0 _law_here, 1 _law_stand, 2 _law_found, 3 _law_at, 4 _law_house_there, 5 _law_after -/
def f__law_all : Fd := ⟨[.sh, .sh], [0, 0, 1, 0, 0, 0], 0,
  (.cons (.tas [2, 3] (.cons (.lst 0 (.cons (.var 1) .nil)) (.cons (.cst (.int 0)) .nil))) (.cons (.whl 1000000 (.cmp .lt (.var 3) (.b1 .len (.var 2))) b__law_all_1) (.cons (.ret (.var 2)) .nil)))⟩
def b__law_right_0 : ISs := (.cons (.asg 10 (.comp 0 [12] (.name 12) (.seq (.var 4)) (.cst (.bool true)) (.call "_law_k" (.cons (.var 1) (.cons (.var 12) (.cons (.var 8) (.cons (.var 9) .nil))))))) (.cons (.asg 11 (.lst 0 (.cons (.call "fewest_keys" (.cons (.var 1) (.cons (.var 2) (.cons (.var 8) (.cons (.var 9) .nil))))) (.cons (.call "most_keys" (.cons (.var 1) (.cons (.var 2) (.cons (.var 8) (.cons (.var 9) .nil))))) .nil)))) (.cons (.ifs (.or (.cmp .ne (.b1 .repr (.var 11)) (.b1 .repr (.lst 0 (.cons (.b1 .minl (.var 10)) (.cons (.b1 .maxl (.var 10)) .nil))))) (.cmp .ne (.comp 0 [12] (.name 12) (.range2 (.b1 .minl (.var 10)) (.op .add (.b1 .maxl (.var 10)) (.cst (.int 1)))) (.cmp .notin (.var 12) (.var 10)) (.var 12)) (.lst 0 .nil)))
  (.cons (.ret (.cst (.bool false))) .nil)
  .nil) (.cons (.ifs (.or (.cmp .ne (.op .add (.ix (.var 11) (.cst (.int 0))) (.call "most_keys" (.cons (.var 1) (.cons (.var 2) (.cons (.var 9) (.cons (.var 8) .nil)))))) (.var 7)) (.cmp .ne (.b1 .repr (.lst 0 (.cons (.var 1) (.cons (.var 2) .nil)))) (.var 3)))
  (.cons (.ret (.cst (.bool false))) .nil)
  .nil) .nil))))
def b__law_right_1 : ISs := (.cons (.for_ (.tup (.cons (.name 8) (.cons (.name 9) .nil))) (.seq (.lst 0 (.cons (.tup (.cons (.var 5) (.cons (.var 6) .nil))) (.cons (.tup (.cons (.var 6) (.cons (.var 5) .nil))) .nil)))) b__law_right_0) .nil)
/-- _law_right: 0 _law_generator_here, 1 _law_here, 2 _law_stand, 3 _law_kept, 4 _law_every, 5 _law_low, 6 _law_high, 7 _law_many, 8 _law_one, 9 _law_other, 10 _law_due, 11 _law_told, 12 _law_item -/
def f__law_right : Fd := ⟨[.io 1], [1000, 0, 0, 0, 0, 0, 0, 0, 0, 0, 0, 0, 0], 0,
  (.cons (.unp (.cons (.name 1) (.cons (.name 2) .nil)) (.call "_law_drawn" (.cons (.var 0) (.cons (.cst (.int 4)) (.cons (.cst (.int 2)) .nil))))) (.cons (.tas [3, 4] (.cons (.b1 .repr (.lst 0 (.cons (.var 1) (.cons (.var 2) .nil)))) (.cons (.call "_law_all" (.cons (.var 1) (.cons (.var 2) .nil))) .nil))) (.cons (.for_ (.tup (.cons (.name 5) (.cons (.name 6) (.cons (.name 7) .nil)))) (.seq (.ix (.var 1) (.cst (.int 1)))) b__law_right_1) (.cons (.ret (.cmp .eq (.b1 .repr (.lst 0 (.cons (.var 1) (.cons (.var 2) .nil)))) (.var 3))) .nil))))⟩
def b_law_0 : ISs := (.cons (.ifs (.not (.call "_law_right" (.cons (.call "_law_generator" (.cons (.var 0) (.cons (.var 1) .nil))) .nil)))
  (.cons (.ret (.cst (.bool false))) .nil)
  .nil) .nil)
/-- law: 0 _law_script, 1 _law_index, 2 _law_path, 3 _law_ring, 4 _law_told, 5 _law_six, 6 _law_five, 7 _law_held, 8 _law_many -/
def f_law : Fd := ⟨[.sh], [0, 0, 0, 0, 0, 0, 0, 0, 0], 0,
  (.cons (.for_ (.name 1) (.range1 (.cst (.int 2))) b_law_0) (.cons (.tas [2, 3] (.cons (.tup (.cons (.cst (.int 3)) (.cons (.lst 0 (.cons (.tup (.cons (.cst (.int 0)) (.cons (.cst (.int 1)) (.cons (.cst (.int 1)) .nil)))) (.cons (.tup (.cons (.cst (.int 1)) (.cons (.cst (.int 2)) (.cons (.cst (.int 2)) .nil)))) .nil))) .nil))) (.cons (.tup (.cons (.cst (.int 3)) (.cons (.lst 0 (.cons (.tup (.cons (.cst (.int 0)) (.cons (.cst (.int 1)) (.cons (.cst (.int 1)) .nil)))) (.cons (.tup (.cons (.cst (.int 0)) (.cons (.cst (.int 2)) (.cons (.cst (.int 1)) .nil)))) (.cons (.tup (.cons (.cst (.int 1)) (.cons (.cst (.int 2)) (.cons (.cst (.int 1)) .nil)))) .nil)))) .nil))) .nil))) (.cons (.asg 4 (.lst 0 (.cons (.call "fewest_keys" (.cons (.var 2) (.cons (.lst 0 (.cons (.cst (.int 1)) (.cons (.cst (.int 0)) .nil))) (.cons (.cst (.int 1)) (.cons (.cst (.int 2)) .nil))))) (.cons (.call "most_keys" (.cons (.var 2) (.cons (.lst 0 (.cons (.cst (.int 1)) (.cons (.cst (.int 0)) .nil))) (.cons (.cst (.int 1)) (.cons (.cst (.int 2)) .nil))))) (.cons (.call "most_keys" (.cons (.var 3) (.cons (.lst 0 (.cons (.cst (.int 1)) (.cons (.cst (.int 0)) (.cons (.cst (.int 1)) .nil)))) (.cons (.cst (.int 0)) (.cons (.cst (.int 1)) .nil))))) (.cons (.call "fewest_keys" (.cons (.var 3) (.cons (.lst 0 (.cons (.cst (.int 1)) (.cons (.cst (.int 1)) (.cons (.cst (.int 1)) .nil)))) (.cons (.cst (.int 2)) (.cons (.cst (.int 1)) .nil))))) .nil)))))) (.cons (.asg 5 (.tup (.cons (.cst (.int 6)) (.cons (.lst 0 (.cons (.tup (.cons (.cst (.int 0)) (.cons (.cst (.int 1)) (.cons (.cst (.int 1)) .nil)))) (.cons (.tup (.cons (.cst (.int 0)) (.cons (.cst (.int 2)) (.cons (.cst (.int 1)) .nil)))) (.cons (.tup (.cons (.cst (.int 1)) (.cons (.cst (.int 2)) (.cons (.cst (.int 1)) .nil)))) (.cons (.tup (.cons (.cst (.int 2)) (.cons (.cst (.int 3)) (.cons (.cst (.int 2)) .nil)))) (.cons (.tup (.cons (.cst (.int 3)) (.cons (.cst (.int 4)) (.cons (.cst (.int 1)) .nil)))) (.cons (.tup (.cons (.cst (.int 3)) (.cons (.cst (.int 5)) (.cons (.cst (.int 1)) .nil)))) (.cons (.tup (.cons (.cst (.int 4)) (.cons (.cst (.int 5)) (.cons (.cst (.int 1)) .nil)))) .nil)))))))) .nil)))) (.cons (.ifs (.cmp .ne (.lst 0 (.cons (.call "fewest_keys" (.cons (.var 5) (.cons (.lst 0 (.cons (.cst (.int 0)) (.cons (.cst (.int 1)) (.cons (.cst (.int 0)) (.cons (.cst (.int 1)) (.cons (.cst (.int 0)) (.cons (.cst (.int 1)) (.cons (.cst (.int 0)) .nil)))))))) (.cons (.cst (.int 2)) (.cons (.cst (.int 3)) .nil))))) (.cons (.call "most_keys" (.cons (.var 5) (.cons (.lst 0 (.cons (.cst (.int 0)) (.cons (.cst (.int 1)) (.cons (.cst (.int 0)) (.cons (.cst (.int 1)) (.cons (.cst (.int 0)) (.cons (.cst (.int 1)) (.cons (.cst (.int 0)) .nil)))))))) (.cons (.cst (.int 3)) (.cons (.cst (.int 2)) .nil))))) .nil))) (.lst 0 (.cons (.cst (.int 1)) (.cons (.cst (.int 1)) .nil))))
  (.cons (.ret (.cst (.bool false))) .nil)
  .nil) (.cons (.tas [6, 7] (.cons (.tup (.cons (.cst (.int 5)) (.cons (.lst 0 (.cons (.tup (.cons (.cst (.int 0)) (.cons (.cst (.int 1)) (.cons (.cst (.int 1)) .nil)))) (.cons (.tup (.cons (.cst (.int 0)) (.cons (.cst (.int 2)) (.cons (.cst (.int 1)) .nil)))) (.cons (.tup (.cons (.cst (.int 1)) (.cons (.cst (.int 2)) (.cons (.cst (.int 1)) .nil)))) (.cons (.tup (.cons (.cst (.int 2)) (.cons (.cst (.int 3)) (.cons (.cst (.int 1)) .nil)))) (.cons (.tup (.cons (.cst (.int 3)) (.cons (.cst (.int 4)) (.cons (.cst (.int 3)) .nil)))) .nil)))))) .nil))) (.cons (.lst 0 (.cons (.cst (.int 0)) (.cons (.cst (.int 1)) (.cons (.cst (.int 0)) (.cons (.cst (.int 1)) (.cons (.cst (.int 0)) .nil)))))) .nil))) (.cons (.ifs (.cmp .ne (.lst 0 (.cons (.call "fewest_keys" (.cons (.var 6) (.cons (.var 7) (.cons (.cst (.int 3)) (.cons (.cst (.int 4)) .nil))))) (.cons (.call "most_keys" (.cons (.var 6) (.cons (.var 7) (.cons (.cst (.int 3)) (.cons (.cst (.int 4)) .nil))))) (.cons (.call "fewest_keys" (.cons (.var 6) (.cons (.var 7) (.cons (.cst (.int 4)) (.cons (.cst (.int 3)) .nil))))) (.cons (.call "fewest_keys" (.cons (.var 6) (.cons (.var 7) (.cons (.cst (.int 2)) (.cons (.cst (.int 3)) .nil))))) .nil))))) (.lst 0 (.cons (.cst (.int 0)) (.cons (.cst (.int 1)) (.cons (.cst (.int 2)) (.cons (.cst (.int 0)) .nil))))))
  (.cons (.ret (.cst (.bool false))) .nil)
  .nil) (.cons (.asg 8 (.tup (.cons (.cst (.int 3)) (.cons (.lst 0 (.cons (.tup (.cons (.cst (.int 0)) (.cons (.cst (.int 1)) (.cons (.cst (.int 9)) .nil)))) (.cons (.tup (.cons (.cst (.int 0)) (.cons (.cst (.int 2)) (.cons (.cst (.int 1)) .nil)))) (.cons (.tup (.cons (.cst (.int 1)) (.cons (.cst (.int 2)) (.cons (.cst (.int 1)) .nil)))) .nil)))) .nil)))) (.cons (.ret (.and (.cmp .eq (.var 4) (.lst 0 (.cons (.cst (.int 0)) (.cons (.cst (.int 2)) (.cons (.cst (.int 1)) (.cons (.cst (.int 0)) .nil)))))) (.cmp .eq (.lst 0 (.cons (.call "fewest_keys" (.cons (.var 8) (.cons (.lst 0 (.cons (.cst (.int 5)) (.cons (.cst (.int 0)) (.cons (.cst (.int 0)) .nil)))) (.cons (.cst (.int 0)) (.cons (.cst (.int 1)) .nil))))) (.cons (.call "most_keys" (.cons (.var 8) (.cons (.lst 0 (.cons (.cst (.int 5)) (.cons (.cst (.int 0)) (.cons (.cst (.int 0)) .nil)))) (.cons (.cst (.int 0)) (.cons (.cst (.int 1)) .nil))))) .nil))) (.lst 0 (.cons (.cst (.int 4)) (.cons (.cst (.int 6)) .nil)))))) .nil)))))))))⟩
def L : List (String × Fd) := [("is_whole", f_is_whole), ("is_between", f_is_between), ("is_road", f_is_road), ("is_net", f_is_net), ("check_net", f_check_net), ("is_standing", f_is_standing), ("check_standing", f_check_standing), ("is_house", f_is_house), ("check_house", f_check_house), ("neighbours_of", f_neighbours_of), ("directions_of", f_directions_of), ("road_at", f_road_at), ("keys_in", f_keys_in), ("lengths_from", f_lengths_from), ("free_ahead", f_free_ahead), ("stuck_houses", f_stuck_houses), ("leads_over", f_leads_over), ("lead_in", f_lead_in), ("check_pair", f_check_pair), ("check_ends", f_check_ends), ("fewest_keys", f_fewest_keys), ("most_keys", f_most_keys), ("_law_hash", f__law_hash), ("_law_random", f__law_random), ("_law_cell", f__law_cell), ("_law_generator", f__law_generator), ("_law_net", f__law_net), ("_law_standing", f__law_standing), ("_law_drawn", f__law_drawn), ("_law_k", f__law_k), ("_law_mates", f__law_mates), ("_law_can", f__law_can), ("_law_work", f__law_work), ("_law_all", f__law_all), ("_law_right", f__law_right), ("law", f_law)]
def T : Tb := tbOf L
def B : List Str := [("range" : Str), ("len" : Str), ("sorted" : Str), ("sum" : Str), ("max" : Str), ("min" : Str), ("isinstance" : Str), ("int" : Str), ("list" : Str), ("set" : Str), ("repr" : Str), ("zip" : Str), ("tuple" : Str), ("bool" : Str)]
def KW : KWs := []
end Ir

set_option Elab.async false
set_option linter.all false
set_option maxRecDepth 100000
set_option maxHeartbeats 1000000
namespace Kr
open PySem PySem.Spec PyProof.Rows L2
/-! ### mirrors: what the evaluator answers -/
theorem callK_at {T : Tb} {f : String} {fd : Fd} (h : T f = some fd) (k : Nat) (ds : List D) : callK T (k + 1) f ds = runF (orc T k) fd ds := by
  show (T f).bind _ = _
  rw [h]; rfl
theorem orc_modes {T : Tb} {f : String} {fd : Fd} (h : T f = some fd) (k : Nat) : (orc T k).modes f = some fd.pm := by show (T f).map _ = _; rw [h]; rfl
@[simp] theorem orc_call (T : Tb) (k : Nat) : (orc T k).call = callK T k := rfl
section
variable {α β : Type} {ε ε' : Sg} {a : α} {f : α → Sg → R β} {g : α → R β} {k : α → Sg → Out} {n m i : Nat} {d : D} {s : Sl}
@[simp] theorem x_bind : (R.ok a ε).bind f = f a ε := rfl
@[simp] theorem x_out : (R.ok a ε).out k = k a ε := rfl
@[simp] theorem x_ofO : ofO (some a) g = g a := rfl
@[simp] theorem x_ofOut {g : α → Out} : ofOut (some a) g = g a := rfl
@[simp] theorem x_seq {h : Sg → Out} : (Out.nx ε).seq h = h ε := rfl
@[simp] theorem x_seqr {h : Sg → Out} : (Out.rt n d ε).seq h = .rt n d ε := rfl
@[simp] theorem x_seqb {h : Sg → Out} : (Out.bk ε).seq h = .bk ε := rfl
@[simp] theorem x_seqc {h : Sg → Out} : (Out.ct ε).seq h = .ct ε := rfl
@[simp] theorem x_sv0 : sval (.v n d :: ε) 0 = some (n, d) := rfl
@[simp] theorem x_svs : sval (s :: ε) (i + 1) = sval ε i := rfl
@[simp] theorem x_rsd : rs ε (.dat n d) = some d := rfl
@[simp] theorem x_rsl : rs ε (.loc i) = (sval ε i).map fun p => p.2 := rfl
@[simp] theorem x_bod : bor ε (.dat n d) = some d := rfl
@[simp] theorem x_bol : bor ε (.loc i) = (sval ε i).bind fun p => if p.1 ≤ 1 then some p.2 else none := rfl
@[simp] theorem x_esd : esc ε (.dat n d) = some (n, d, ε) := rfl
@[simp] theorem x_esl : esc ε (.loc i) = (sval ε i).map fun p => (0, p.2, ε.set i (.v 0 p.2)) := rfl
@[simp] theorem x_tst {x : EV} : tstR (.ok x ε) = ofO (rs ε x) fun d => if truOk d = true then .ok (truD d) ε else .st := rfl
@[simp] theorem x_trb {b : Bool} : truD (.bool b) = b := rfl
@[simp] theorem x_tob {b : Bool} : truOk (.bool b) = true := rfl
@[simp] theorem x_toi {i : Int} : truOk (.int i) = true := rfl
@[simp] theorem x_tol {l : List D} : truOk (.list l) = true := rfl
@[simp] theorem x_tot {l : List D} : truOk (.tuple l) = true := rfl
@[simp] theorem x_ton : truOk .none = true := rfl
@[simp] theorem x_trl {l : List D} : truD (.list l) = !l.isEmpty := rfl
@[simp] theorem x_set0 {s' : Sl} : List.set (s :: ε) 0 s' = s' :: ε := rfl
@[simp] theorem x_sets {s' : Sl} : List.set (s :: ε) (i + 1) s' = s :: List.set ε i s' := rfl
@[simp] theorem x_pas {x : EV} : passArg .sh x ε = ofO (esc ε x) fun p => .ok (.dat 0 p.2.1) p.2.2 := rfl
@[simp] theorem x_paio : passArg (.io n) (.loc i) ε = .ok (.loc i) ε := rfl
end
/-- a loop that goes on, by an invariant that counts -/
theorem forL_nx {F : D → Sg → Out} (I : Nat → Sg → Prop) : ∀ (ds : List D) (i : Nat) (ε : Sg), I i ε → (∀ d ε j, d ∈ ds → I j ε → ∃ ε', (F d ε = .nx ε' ∨ F d ε = .ct ε') ∧ I (j + 1) ε') → ∃ ε', forL F ds ε = .nx ε' ∧ I (i + ds.length) ε'
  | [], i, ε, h, _ => ⟨ε, rfl, h⟩
  | d :: ds, i, ε, h, st => by
    obtain ⟨ε1, h1, h2⟩ := st d ε i List.mem_cons_self h
    obtain ⟨ε2, h3, h4⟩ := forL_nx I ds (i + 1) ε1 h2 fun d ε j hd hj => st d ε j (List.mem_cons_of_mem _ hd) hj
    refine ⟨ε2, ?_, by rw [List.length_cons, show i + (ds.length + 1) = i + 1 + ds.length by omega]; exact h4⟩
    rw [forL]
    rcases h1 with h1 | h1 <;> rw [h1] <;> exact h3
/-- a comprehension whose turns leave the slots as they are -/
theorem compL_fix {F : D → Sg → R (Option (Nat × D))} {n : Nat} {ε : Sg} (g : D → Option (Nat × D)) : ∀ (ds acc : List D), (∀ d ∈ ds, F d ε = .ok (g d) ε ∧ ∀ p, g d = some p → n ≤ p.1) → acc.length + ds.length ≤ sizeLine → compL F n ds acc ε = .ok (acc ++ ds.filterMap fun d => (g d).map (·.2)) ε
  | [], acc, _, _ => by rw [compL]; simp
  | d :: ds, acc, h, hl => by
    obtain ⟨h1, h2⟩ := h d List.mem_cons_self
    have ht := fun d hd => h d (List.mem_cons_of_mem _ hd)
    have hl : acc.length + (ds.length + 1) ≤ sizeLine := hl
    rw [compL, h1]
    cases q : g d with
    | none =>
      simp only
      rw [compL_fix g ds acc ht (by omega), List.filterMap_cons, q]
      rfl
    | some p =>
      obtain ⟨m, e⟩ := p
      simp only
      rw [if_pos ⟨h2 _ q, by omega⟩, compL_fix g ds (acc ++ [e]) ht (by simp; omega), List.filterMap_cons, q]
      simp
/-- .. by an invariant on the slots and what has been gathered -/
theorem compL_inv {F : D → Sg → R (Option (Nat × D))} {n : Nat} (I : Nat → List D → Sg → Prop) : ∀ (ds : List D) (i : Nat) (acc : List D) (ε : Sg), I i acc ε → (∀ d ε j acc, d ∈ ds → I j acc ε → (∃ ε', F d ε = .ok none ε' ∧ I (j + 1) acc ε') ∨ ∃ m e ε', F d ε = .ok (some (m, e)) ε' ∧ n ≤ m ∧ I (j + 1) (acc ++ [e]) ε') → acc.length + ds.length ≤ sizeLine →
    ∃ acc' ε', compL F n ds acc ε = .ok acc' ε' ∧ I (i + ds.length) acc' ε'
  | [], i, acc, ε, h, _, _ => ⟨acc, ε, by rw [compL], h⟩
  | d :: ds, i, acc, ε, h, st, hl => by
    have hl : acc.length + (ds.length + 1) ≤ sizeLine := hl
    rw [compL, List.length_cons, show i + (ds.length + 1) = i + 1 + ds.length by omega]
    rcases st d ε i acc List.mem_cons_self h with ⟨ε1, h1, h2⟩ | ⟨m, e, ε1, h1, hm, h2⟩
    · rw [h1]
      exact compL_inv I ds (i + 1) acc ε1 h2 (fun d ε j acc hd => st d ε j acc (List.mem_cons_of_mem _ hd)) (by omega)
    · rw [h1]
      simp only
      rw [if_pos ⟨hm, by omega⟩]
      exact compL_inv I ds (i + 1) (acc ++ [e]) ε1 h2 (fun d ε j acc hd => st d ε j acc (List.mem_cons_of_mem _ hd)) (by simp; omega)
/-! ### block by block (simp under the lambdas of a loop is slow for the kernel) -/
section
variable {O : Orc} {Γ : List Nat} {rd : Nat} {ε ε1 : Sg} {s : IS} {ss a b : ISs} {n : Nat} {d : D} {L : List D} {t : TG} {it : II} {o : Out} {c e : IE}
theorem xs_nx (h : exec O Γ rd s ε = .nx ε1) : execs O Γ rd (.cons s ss) ε = execs O Γ rd ss ε1 := by rw [execs, h]; rfl
theorem xs_rt (h : exec O Γ rd s ε = .rt n d ε1) : execs O Γ rd (.cons s ss) ε = .rt n d ε1 := by rw [execs, h]; rfl
theorem xs_nil : execs O Γ rd .nil ε = .nx ε := by rw [execs]
theorem x_for (hi : evalI O Γ it ε = .ok L ε1) (hf : forL (fun d ε' => ofOut (setTG Γ t d ε') fun ε2 => execs O Γ rd b ε2) L ε1 = o) : exec O Γ rd (.for_ t it b) ε = o := by rw [exec, hi]; exact hf
theorem x_ifT (hc : evalT O Γ c ε = .ok true ε1) : exec O Γ rd (.ifs c a b) ε = execs O Γ rd a ε1 := by rw [exec, hc]; rfl
theorem x_ifF (hc : evalT O Γ c ε = .ok false ε1) : exec O Γ rd (.ifs c a b) ε = execs O Γ rd b ε1 := by rw [exec, hc]; rfl
theorem run_rt {f : Fd} {ds io : List D} (hl : f.pm.length = ds.length ∧ ds.length ≤ f.gam.length) (h : execs O f.gam f.rd f.body (startS f.pm ds f.gam.length) = .rt n d ε) (hi : ioEnd f.pm ε = some io) : runF O f ds = some (.ret n d io) := by
  unfold runF
  rw [if_pos hl, h]
  show (ioEnd f.pm ε).map _ = _
  rw [hi]
  rfl
theorem run_nx {f : Fd} {ds io : List D} (hl : f.pm.length = ds.length ∧ ds.length ≤ f.gam.length) (h : execs O f.gam f.rd f.body (startS f.pm ds f.gam.length) = .nx ε) (hi : ioEnd f.pm ε = some io) : runF O f ds = some (.ret f.rd .none io) := by
  unfold runF
  rw [if_pos hl, h]
  show (ioEnd f.pm ε).map _ = _
  rw [hi]
  rfl
end
end Kr

set_option Elab.async false
set_option linter.all false
set_option maxRecDepth 100000
set_option maxHeartbeats 1000000
namespace Kr
open PySem PySem.Spec PyProof.Rows L2
/-! ### what a def computes, as a plain function of its data -/
inductive Rs (α : Type) | st | ok (a : α) | ex (c : String) (d : D)
abbrev Mx (σ α : Type) := σ → Rs (α × σ)
section
variable {σ α β : Type}
def pv (a : α) : Mx σ α := fun s => .ok (a, s)
def bd (m : Mx σ α) (f : α → Mx σ β) : Mx σ β := fun s => match m s with | .st => .st | .ok p => f p.1 p.2 | .ex c d => .ex c d
def stM : Mx σ α := fun _ => .st
def exM (c : String) (d : D) : Mx σ α := fun _ => .ex c d
def oM (o : Option α) : Mx σ α := match o with | none => stM | some a => pv a
def lf (r : Rs α) : Mx σ α := fun s => match r with | .st => .st | .ok a => .ok (a, s) | .ex c d => .ex c d
/-- what may not raise -/
def nex (m : Mx σ α) : Mx σ α := fun s => match m s with | .ex _ _ => .st | r => r
def dep (n : Nat) (r : Option (Nat × D)) : Option D := r.bind fun p => if n ≤ p.1 then some p.2 else none
def truM (x : D) : Mx σ Bool := if truOk x = true then pv (truD x) else stM
def tsM (a : Mx σ D) : Mx σ Bool := bd a truM
def opM (n : Nat) (o : O2) (a b : Mx σ D) : Mx σ D := bd a fun x => bd b fun y => oM (dep n (binop o x y))
def negM (a : Mx σ D) : Mx σ D := bd a fun x => match x with | .int i => pv (.int (-i)) | _ => stM
def cmpM (o : OC) (a b : Mx σ D) : Mx σ D := bd a fun x => bd b fun y => bd (oM (cmpop o x y)) fun r => pv (.bool r)
def chainM (o p : OC) (a b c : Mx σ D) : Mx σ D := bd a fun x => bd b fun y => bd (oM (cmpop o x y)) fun r => if r = true then bd c fun z => bd (oM (cmpop p y z)) fun r' => pv (.bool r') else pv (.bool false)
def chain3M (o p q : OC) (a b c d : Mx σ D) : Mx σ D := bd a fun x => bd b fun y => bd (oM (cmpop o x y)) fun r => if r = true then bd c fun z => bd (oM (cmpop p y z)) fun r' => if r' = true then bd d fun u => bd (oM (cmpop q z u)) fun r2 => pv (.bool r2) else pv (.bool false) else pv (.bool false)
def andM (a b : Mx σ D) : Mx σ D := bd a fun x => bd (truM x) fun t => if t = true then b else pv x
def orM (a b : Mx σ D) : Mx σ D := bd a fun x => bd (truM x) fun t => if t = true then pv x else b
def notM (a : Mx σ D) : Mx σ D := bd (tsM a) fun t => pv (.bool (!t))
def iteM (c : Mx σ Bool) (a b : Mx σ α) : Mx σ α := bd c fun t => if t = true then a else b
def sqM : List (Mx σ α) → Mx σ (List α)
  | [] => pv []
  | m :: r => bd m fun x => bd (sqM r) fun xs => pv (x :: xs)
def tupM (l : List (Mx σ D)) : Mx σ D := bd (sqM l) fun ds => if ds.length ≤ sizeLine then pv (.tuple ds) else stM
def lstM (l : List (Mx σ D)) : Mx σ D := bd (sqM l) fun ds => if ds.length ≤ sizeLine then pv (.list ds) else stM
def ixM (a i : Mx σ D) : Mx σ D := bd a fun x => bd i fun y => match y with | .int k => oM (getI x k) | _ => stM
def noP : Mx σ (Option Int) := pv none
def exP (m : Mx σ D) : Mx σ (Option Int) := bd m fun x => match x with | .int i => pv (some i) | _ => stM
def slM (n : Nat) (a : Mx σ D) (lo hi : Mx σ (Option Int)) : Mx σ D := bd a fun x => bd lo fun l => bd hi fun h => oM (dep n (slD x l h))
def revM (a : Mx σ D) : Mx σ D := bd a fun x => match x with | .list ds => pv (.list ds.reverse) | _ => stM
def b1M (n : Nat) (f : B1) (a : Mx σ D) : Mx σ D := bd a fun x => oM (dep n (b1v f x))
def b2M (f : B2) (a b : Mx σ D) : Mx σ D := bd a fun x => bd b fun y => oM (dep 0 (b2v f x y))
def mthM (f : B2) (a b : Mx σ D) : Mx σ D := bd a fun x => match x with | .list _ => bd b fun y => oM (dep 0 (b2v f x y)) | _ => stM
def seqI (a : Mx σ D) : Mx σ (List D) := bd a fun x => match x with | .list ds => pv ds | .tuple ds => pv ds | _ => stM
def rg1 (a : Mx σ D) : Mx σ (List D) := bd a fun x => match x with | .int j => if rgOk j = true then pv (rangeD 0 j.toNat) else stM | _ => stM
def rg2 (a b : Mx σ D) : Mx σ (List D) := bd a fun x => bd b fun y => match x, y with | .int i, .int j => if rgOk i && rgOk j = true then pv (rangeD i (j - i).toNat) else stM | _, _ => stM
def enI (a : Mx σ D) : Mx σ (List D) := bd a fun x => match x with | .list ds => pv (enumD ds 0) | _ => stM
def zpI (a b : Mx σ D) : Mx σ (List D) := bd a fun x => bd b fun y => match x, y with | .list xs, .list ys => pv (zipD xs ys) | _, _ => stM
def compG (f : D → Mx σ (Option D)) : List D → List D → Mx σ (List D)
  | [], acc => pv acc
  | d :: ds, acc => bd (nex (f d)) fun r => match r with | none => compG f ds acc | some e => if acc.length < sizeLine then compG f ds (acc ++ [e]) else stM
def compM (it : Mx σ (List D)) (f : D → Mx σ (Option D)) : Mx σ D := bd it fun ds => bd (compG f ds []) fun acc => pv (.list acc)
def keepM (c e : Mx σ D) : Mx σ (Option D) := bd (tsM c) fun t => if t = true then bd e fun d => pv (some d) else pv none
def allM (e : Mx σ D) : Mx σ (Option D) := bd e fun d => pv (some d)
def un2 (d : D) (f : D → D → Mx σ α) : Mx σ α := match d with | .tuple [a, b] => f a b | .list [a, b] => f a b | _ => stM
def un3 (d : D) (f : D → D → D → Mx σ α) : Mx σ α := match d with | .tuple [a, b, c] => f a b c | _ => stM
def un4 (d : D) (f : D → D → D → D → Mx σ α) : Mx σ α := match d with | .tuple [a, b, c, e] => f a b c e | _ => stM
def un5 (d : D) (f : D → D → D → D → D → Mx σ α) : Mx σ α := match d with | .tuple [a, b, c, e, g] => f a b c e g | _ => stM
def callM (F : List D → Rs D) (l : List (Mx σ D)) : Mx σ D := bd (sqM l) fun ds => lf (F ds)
def callKM (F : List D → Rs D) (js : List Nat) (l l2 : List (Mx σ D)) : Mx σ D := bd (sqM l) fun a => bd (sqM l2) fun b => bd (oM (permG js (a ++ b))) fun ds => lf (F ds)
def callG (F : D → List D → Rs (D × D)) (l : List (Mx D D)) : Mx D D := bd (sqM l) fun ds s => match F s ds with | .st => .st | .ok p => .ok p | .ex _ _ => .st
def callT (F : D → List D → Rs (D × D)) (e : Mx σ D) (l : List (Mx σ D)) : Mx σ D := bd e fun g => bd (sqM l) fun ds s => match F g ds with | .st => .st | .ok p => .ok (p.1, s) | .ex _ _ => .st
/-! statements -/
inductive Oc (ρ β : Type) | nx (r : ρ) | rt (d : D) | bk (b : β) | ct (b : β)
variable {ρ ρ' γ : Type}
def rtM (a : Mx σ D) : Mx σ (Oc ρ γ) := bd a fun d => pv (.rt d)
def nxM (r : ρ) : Mx σ (Oc ρ γ) := pv (.nx r)
def bkM (b : γ) : Mx σ (Oc ρ γ) := pv (.bk b)
def ctM (b : γ) : Mx σ (Oc ρ γ) := pv (.ct b)
def sqO (m : Mx σ (Oc ρ' γ)) (k : ρ' → Mx σ (Oc ρ γ)) : Mx σ (Oc ρ γ) := bd m fun o => match o with | .nx r => k r | .rt d => pv (.rt d) | .bk b => pv (.bk b) | .ct b => pv (.ct b)
def forG (f : D → ρ → Mx σ (Oc ρ ρ)) : List D → ρ → Mx σ (Oc ρ γ)
  | [], r => pv (.nx r)
  | d :: ds, r => bd (f d r) fun o => match o with | .nx r' => forG f ds r' | .ct r' => forG f ds r' | .bk r' => pv (.nx r') | .rt d => pv (.rt d)
def forM (it : Mx σ (List D)) (r : ρ) (f : D → ρ → Mx σ (Oc ρ ρ)) : Mx σ (Oc ρ γ) := bd it fun ds => forG f ds r
def whlG (c : ρ → Mx σ Bool) (f : ρ → Mx σ (Oc ρ ρ)) : Nat → ρ → Mx σ (Oc ρ γ)
  | 0, _ => stM
  | n + 1, r => bd (c r) fun b => if b = true then bd (f r) fun o => match o with | .nx r' => whlG c f n r' | .ct r' => whlG c f n r' | .bk r' => pv (.nx r') | .rt d => pv (.rt d) else pv (.nx r)
def appM (l : D) (e : Mx σ D) (k : D → Mx σ α) : Mx σ α := match l with | .list xs => bd e fun d => if xs.length < sizeLine then k (.list (xs ++ [d])) else stM | _ => stM
def appPop (l q : D) (e : Mx σ D) (k : D → D → Mx σ α) : Mx σ α := match l, q with
  | .list xs, .list ys => bd e fun x => match x with
    | .int i => bd (oM (ixN ys.length i)) fun j => bd (oM ys[j]?) fun d => if ys.length ≤ sizeLine ∧ xs.length < sizeLine then k (.list (xs ++ [d])) (.list (ys.eraseIdx j)) else stM
    | _ => stM
  | _, _ => stM
def popLast (q : D) (k : D → D → Mx σ α) : Mx σ α := match q with | .list ys => bd (oM ys.getLast?) fun d => k d (.list ys.dropLast) | _ => stM
def popM (q : D) (e : Mx σ D) (k : D → D → Mx σ α) : Mx σ α := match q with
  | .list ys => bd e fun x => match x with
    | .int i => bd (oM (ixN ys.length i)) fun j => bd (oM ys[j]?) fun d => if ys.length ≤ sizeLine then k d (.list (ys.eraseIdx j)) else stM
    | _ => stM
  | _ => stM
def setM (e : Mx σ D) (a : Mx σ D) (l : D) (k : D → Mx σ α) : Mx σ α := bd e fun d => bd a fun x => match x with
  | .int i => (match l with | .list xs => bd (oM (ixN xs.length i)) fun j => k (.list (xs.set j d)) | _ => stM)
  | _ => stM
@[irreducible] def runM (m : Mx Unit (Oc Unit Empty)) : Rs D := match m () with
  | .ok (.rt d, _) => .ok d
  | .ok (.nx _, _) => .ok .none
  | .ex c d => .ex c d
  | _ => .st
@[irreducible] def runG (m : Mx D (Oc Unit Empty)) (s : D) : Rs (D × D) := match m s with
  | .ok (.rt d, s) => .ok (d, s)
  | .ok (.nx _, s) => .ok (.none, s)
  | _ => .st
end
/-! ### what is known of the slots -/
inductive Pe | any | v (n : Nat) (d : D)
abbrev Pt := List Pe
def Pe.ok : Pe → Sl → Prop
  | .any, _ => True
  | .v n d, s => s = .v n d
def MtL : Pt → Sg → Prop
  | [], _ => True
  | p :: π, s :: ε => p.ok s ∧ MtL π ε
  | _ :: _, [] => False
def pget : Pt → Nat → Pe
  | [], _ => .any
  | p :: _, 0 => p
  | _ :: π, i + 1 => pget π i
def pset : Pt → Nat → Pe → Pt
  | [], _, _ => []
  | _ :: π, 0, p => p :: π
  | q :: π, i + 1, p => q :: pset π i p
def wipeP : List Nat → Pt → Pt
  | [], π => π
  | i :: r, π => pset (wipeP r π) i .any
/-- the one tells no more than the other -/
def Sub : Pt → Pt → Prop
  | _, [] => True
  | p, .any :: q => Sub p.tail q
  | [], .v _ _ :: _ => False
  | p :: ps, .v n d :: q => p = .v n d ∧ Sub ps q
def startP : List PM → List D → Nat → Pt
  | .sh :: ms, d :: ds, k => .v 0 d :: startP ms ds (k - 1)
  | .own n :: ms, d :: ds, k => .v n d :: startP ms ds (k - 1)
  | .io n :: ms, d :: ds, k => .v n d :: startP ms ds (k - 1)
  | _, _, k => List.replicate k .any
def Mt (Γ : List Nat) (π : Pt) (ε : Sg) : Prop := ε.length = Γ.length ∧ MtL π ε
theorem MtL.get : ∀ {π : Pt} {ε : Sg} {i n : Nat} {d : D}, MtL π ε → pget π i = .v n d → sval ε i = some (n, d)
  | [], _, _, _, _, _, h => by cases h
  | p :: π, [], _, _, _, m, _ => m.elim
  | p :: π, s :: ε, 0, n, d, m, h => by
    have h : p = .v n d := h
    subst h
    have e : s = .v n d := m.1
    rw [e]; rfl
  | p :: π, s :: ε, i + 1, n, d, m, h => MtL.get (π := π) (ε := ε) m.2 h
theorem MtL.set : ∀ {π : Pt} {ε : Sg} {i : Nat} {p : Pe} {s : Sl}, MtL π ε → p.ok s → MtL (pset π i p) (ε.set i s)
  | [], _, _, _, _, _, _ => trivial
  | q :: π, [], _, _, _, m, _ => m.elim
  | q :: π, t :: ε, 0, p, s, m, h => ⟨h, m.2⟩
  | q :: π, t :: ε, i + 1, p, s, m, h => ⟨m.1, MtL.set m.2 h⟩
theorem MtL.sub : ∀ {π : Pt} {ρ : Pt} {ε : Sg}, MtL π ε → Sub π ρ → π.length ≤ ε.length → ρ.length ≤ ε.length → MtL ρ ε
  | _, [], _, _, _, _, _ => trivial
  | [], .any :: q, [], m, h, _, hl => by simp at hl
  | [], .any :: q, s :: ε, m, h, _, hl => ⟨trivial, MtL.sub (π := []) trivial h (Nat.zero_le _) (by simpa using hl)⟩
  | p :: ps, .any :: q, [], m, h, hl, _ => by simp at hl
  | p :: ps, .any :: q, s :: ε, m, h, h1, h2 => ⟨trivial, MtL.sub (π := ps) m.2 h (by simpa using h1) (by simpa using h2)⟩
  | [], .v _ _ :: _, _, _, h, _, _ => h.elim
  | p :: ps, .v n d :: q, [], m, h, hl, _ => by simp at hl
  | p :: ps, .v n d :: q, s :: ε, m, h, h1, h2 => ⟨by rw [← h.1]; exact m.1, MtL.sub m.2 h.2 (by simpa using h1) (by simpa using h2)⟩
theorem MtL.len : ∀ {π : Pt} {ε : Sg}, MtL π ε → π.length ≤ ε.length
  | [], _, _ => Nat.zero_le _
  | _ :: _, [], m => m.elim
  | _ :: _, _ :: _, m => Nat.succ_le_succ (MtL.len m.2)
theorem MtL.wipe : ∀ {own : List Nat} {π : Pt} {ε : Sg}, MtL π ε → MtL (wipeP own π) (wipeS own ε)
  | [], _, _, m => m
  | _ :: _, _, _, m => MtL.set (MtL.wipe m) trivial
theorem wipeS_lenX : ∀ (own : List Nat) (ε : Sg), (wipeS own ε).length = ε.length
  | [], _ => rfl
  | _ :: r, ε => by rw [wipeS, List.length_set]; exact wipeS_lenX r ε
theorem MtL.rep : ∀ (n : Nat), MtL (List.replicate n .any) (List.replicate n .un)
  | 0 => trivial
  | n + 1 => ⟨trivial, MtL.rep n⟩
theorem MtL.start : ∀ (ms : List PM) (ds : List D) (k : Nat), MtL (startP ms ds k) (startS ms ds k)
  | [], [], k => MtL.rep k
  | [], _ :: _, k => MtL.rep k
  | m :: _, [], k => by cases m <;> exact MtL.rep k
  | .sh :: ms, d :: ds, k => ⟨rfl, MtL.start ms ds (k - 1)⟩
  | .own n :: ms, d :: ds, k => ⟨rfl, MtL.start ms ds (k - 1)⟩
  | .io n :: ms, d :: ds, k => ⟨rfl, MtL.start ms ds (k - 1)⟩
theorem startS_len : ∀ (ms : List PM) (ds : List D) (k : Nat), ms.length = ds.length → ds.length ≤ k → (startS ms ds k).length = k
  | [], [], k, _, _ => by simp [startS]
  | [], _ :: _, k, h, _ => by simp at h
  | m :: _, [], k, h, _ => by simp at h
  | m :: ms, d :: ds, k, h, hk => by
    have hk : ds.length + 1 ≤ k := hk
    show (startS ms ds (k - 1)).length + 1 = k
    rw [startS_len ms ds (k - 1) (by simpa using h) (by omega)]
    omega
theorem set_sameX : ∀ {ε : Sg} {i n : Nat} {d : D}, sval ε i = some (n, d) → ε.set i (.v n d) = ε
  | [], _, _, _, h => by cases h
  | s :: ε, 0, n, d, h => by
    cases s with
    | un => cases h
    | v m e => cases h; rfl
  | s :: ε, i + 1, n, d, h => by
    show s :: ε.set i (.v n d) = _
    rw [set_sameX (ε := ε) h]
/-- what was known is known still; what was owned may be shared -/
def Le (π π' : Pt) : Prop := ∀ i n d, pget π i = .v n d → ∃ m, m ≤ n ∧ pget π' i = .v m d
theorem Le.refl (π : Pt) : Le π π := fun _ n _ h => ⟨n, Nat.le_refl _, h⟩
theorem Le.trans {π ρ τ : Pt} (a : Le π ρ) (b : Le ρ τ) : Le π τ := fun i n d h => by
  obtain ⟨m, h1, h2⟩ := a i n d h
  obtain ⟨l, h3, h4⟩ := b i m d h2
  exact ⟨l, Nat.le_trans h3 h1, h4⟩
theorem pget_pset : ∀ {π : Pt} {i j n m : Nat} {d : D} {p : Pe}, pget π i = .v m d → pget π j = .v n d → j = i → pget (pset π i p) j = p
  | [], _, _, _, _, _, _, h, _, _ => by cases h
  | q :: π, 0, j, n, m, d, p, h, h2, e => by subst e; rfl
  | q :: π, i + 1, j, n, m, d, p, h, h2, e => by subst e; exact pget_pset (π := π) h h rfl
theorem pget_ne : ∀ {π : Pt} {i j : Nat} {p : Pe}, j ≠ i → pget (pset π i p) j = pget π j
  | [], _, _, _, _ => rfl
  | q :: π, 0, 0, p, h => absurd rfl h
  | q :: π, 0, j + 1, p, h => rfl
  | q :: π, i + 1, 0, p, h => rfl
  | q :: π, i + 1, j + 1, p, h => pget_ne (π := π) (by omega)
theorem Le.froz {π : Pt} {i n : Nat} {d : D} (h : pget π i = .v n d) : Le π (pset π i (.v 0 d)) := fun j m e hj => by
  by_cases q : j = i
  · subst q
    rw [hj] at h
    cases h
    exact ⟨0, Nat.zero_le _, pget_pset hj hj rfl⟩
  · exact ⟨m, Nat.le_refl _, by rw [pget_ne q]; exact hj⟩
section
variable {σ α β : Type} {Γ : List Nat}
/-- how an evaluation answers a plain function -/
def RL (Γ : List Nat) (π : σ → Pt) (P : α → β → Prop) (r : R α) (m : Rs (β × σ)) : Prop := match m with
  | .st => True
  | .ok p => ∃ a ε, r = .ok a ε ∧ Mt Γ (π p.2) ε ∧ P a p.1
  | .ex c d => ∃ ε, r = .ex c d ε ∧ ε.length = Γ.length
theorem RL.bind {α' β' : Type} {π π' : σ → Pt} {P : α → β → Prop} {Q : α' → β' → Prop} {r : R α} {f : α → Sg → R α'} {m : Mx σ β} {g : β → Mx σ β'} {s : σ} (h : RL Γ π P r (m s)) (k : ∀ a b s ε, Mt Γ (π s) ε → P a b → RL Γ π' Q (f a ε) (g b s)) : RL Γ π' Q (r.bind f) (bd m g s) := by
  unfold bd
  unfold RL at h
  split at h
  · trivial
  · rename_i p q
    obtain ⟨a, ε, rfl, hm, hp⟩ := h
    exact k a p.1 p.2 ε hm hp
  · rename_i c d q
    obtain ⟨ε, rfl, hl⟩ := h
    exact ⟨ε, rfl, hl⟩
theorem RL.ok {π : σ → Pt} {P : α → β → Prop} {a : α} {b : β} {s : σ} {ε : Sg} (hm : Mt Γ (π s) ε) (h : P a b) : RL Γ π P (.ok a ε) (pv b s) := ⟨a, ε, rfl, hm, h⟩
theorem RL.st {π : σ → Pt} {P : α → β → Prop} {r : R α} {s : σ} : RL Γ π P r (stM s) := trivial
theorem RL.o {γ : Type} {π : σ → Pt} {P : α → β → Prop} {o : Option γ} {f : γ → R α} {g : γ → Mx σ β} {s : σ} (h : ∀ c, o = some c → RL Γ π P (f c) (g c s)) : RL Γ π P (ofO o f) (bd (oM o) g s) := by
  cases o with
  | none => trivial
  | some c => exact h c rfl
variable (O : Orc)
/-- what a form's value is: data of its own, or what a slot holds -/
def Den (π : σ → Pt) (n k : Nat) (x : EV) (d : D) : Prop := (∃ m, n ≤ m ∧ x = .dat m d) ∨ (n = 0 ∧ ∃ i, x = .loc i ∧ ∀ s, ∃ j, j ≤ k ∧ j ≤ 1 ∧ pget (π s) i = .v j d)
structure XE (Γ : List Nat) (π : σ → Pt) (e : IE) (m : Mx σ D) (n k : Nat) (π' : σ → Pt) : Prop where
  le : ∀ s, Le (π s) (π' s)
  run : ∀ s ε, Mt Γ (π s) ε → RL Γ π' (Den π' n k) (evalE O Γ e ε) (m s)
end
end Kr

set_option Elab.async false
set_option linter.all false
set_option maxRecDepth 100000
set_option maxHeartbeats 1000000
namespace Kr
open PySem PySem.Spec PyProof.Rows L2
section
variable {σ α β : Type} {Γ : List Nat} {O : Orc} {π π0 π1 π2 π3 π4 : σ → Pt} {n k k1 k2 k3 k4 : Nat} {a b c e : IE} {ma mb mc md me : Mx σ D} {d : D}
theorem Den.mono {x : EV} (h : Den π n k x d) (l : ∀ s, Le (π s) (π1 s)) : Den π1 n k x d := by
  rcases h with h | ⟨h0, i, hx, hp⟩
  · exact .inl h
  · refine .inr ⟨h0, i, hx, fun s => ?_⟩
    obtain ⟨j, hj, hj1, hd⟩ := hp s
    obtain ⟨m, hm, hd'⟩ := l s i j d hd
    exact ⟨m, Nat.le_trans hm hj, Nat.le_trans hm hj1, hd'⟩
theorem Den.rs {x : EV} {s : σ} {ε : Sg} (h : Den π n k x d) (m : Mt Γ (π s) ε) : rs ε x = some d := by
  rcases h with ⟨q, _, rfl⟩ | ⟨_, i, rfl, hp⟩
  · rfl
  · obtain ⟨j, hj, hj1, hd⟩ := hp s
    show (sval ε i).map _ = _
    rw [m.2.get hd]; rfl
theorem Den.bor {x : EV} {s : σ} {ε : Sg} (h : Den π n k x d) (m : Mt Γ (π s) ε) : bor ε x = some d := by
  rcases h with ⟨q, _, rfl⟩ | ⟨_, i, rfl, hp⟩
  · rfl
  · obtain ⟨j, hj, hj1, hd⟩ := hp s
    show (sval ε i).bind _ = _
    rw [m.2.get hd]
    show (if j ≤ 1 then some d else none) = _
    rw [if_pos hj1]
theorem Den.esc {x : EV} {s : σ} {ε : Sg} (h : Den π n 0 x d) (m : Mt Γ (π s) ε) : ∃ q, n ≤ q ∧ esc ε x = some (q, d, ε) := by
  rcases h with ⟨q, hq, rfl⟩ | ⟨h0, i, rfl, hp⟩
  · exact ⟨q, hq, rfl⟩
  · obtain ⟨j, hj, hj1, hd⟩ := hp s
    obtain rfl : j = 0 := by omega
    refine ⟨0, by omega, ?_⟩
    show (sval ε i).map _ = _
    rw [m.2.get hd]
    show some (0, d, ε.set i (.v 0 d)) = _
    rw [set_sameX (m.2.get hd)]
theorem Den.dat (h : n ≤ k1) : Den π n k (.dat k1 d) d := .inl ⟨k1, h, rfl⟩
theorem XE.bind {P : β → α → Prop} {f : EV → Sg → R β} {g : D → Mx σ α} {s : σ} {ε : Sg} (h : XE O Γ π a ma n k π1) (hm : Mt Γ (π s) ε) (q : ∀ x d s ε, Mt Γ (π1 s) ε → Den π1 n k x d → RL Γ π2 P (f x ε) (g d s)) : RL Γ π2 P ((evalE O Γ a ε).bind f) (bd ma g s) := RL.bind (h.2 s ε hm) q
theorem RL.o1 {γ : Type} {P : α → β → Prop} {o : Option γ} {c : γ} {f : γ → R α} {m : Rs (β × σ)} (h : o = some c) (k : RL Γ π P (f c) m) : RL Γ π P (ofO o f) m := by rw [h]; exact k
theorem RL.dep {P : EV → D → Prop} {o : Option (Nat × D)} {f : Nat × D → R EV} {s : σ} (h : ∀ r, o = some r → n ≤ r.1 → RL Γ π P (f r) (pv r.2 s)) : RL Γ π P (ofO o f) (oM (Kr.dep n o) s) := by
  cases o with
  | none => trivial
  | some r =>
    by_cases q : n ≤ r.1
    · have e : Kr.dep n (some r) = some r.2 := by show (if n ≤ r.1 then some r.2 else none) = _; rw [if_pos q]
      rw [e]
      exact h r rfl q
    · have e : Kr.dep n (some r) = none := by show (if n ≤ r.1 then some r.2 else none) = _; rw [if_neg q]
      rw [e]
      trivial
theorem RL.if_ {P : α → β → Prop} {p : Prop} [Decidable p] {r : R α} {m : Mx σ β} {s : σ} (h : p → RL Γ π P r (m s)) : RL Γ π P (if p then r else .st) ((if p then m else stM) s) := by
  by_cases q : p
  · rw [if_pos q, if_pos q]; exact h q
  · rw [if_neg q, if_neg q]; trivial
theorem RL.ifb {P : α → β → Prop} {t : Bool} {r r' : R α} {m m' : Mx σ β} {s : σ} (h1 : t = true → RL Γ π P r (m s)) (h2 : t = false → RL Γ π P r' (m' s)) : RL Γ π P (if t = true then r else r') ((if t = true then m else m') s) := by
  cases t with
  | true => exact h1 rfl
  | false => exact h2 rfl
/-! forms -/
theorem XE.var0 {i : Nat} (h : ∀ s, pget (π s) i = .v 0 d) : XE O Γ π (.var i) (pv d) 0 0 π := ⟨fun _ => .refl _, fun s ε m => by
  rw [evalE, m.2.get (h s)]
  exact RL.ok m (.inr ⟨rfl, i, rfl, fun s => ⟨0, Nat.le_refl _, by omega, h s⟩⟩)⟩
theorem XE.var1 {i : Nat} (h : ∀ s, pget (π s) i = .v 1 d) : XE O Γ π (.var i) (pv d) 0 1 π := ⟨fun _ => .refl _, fun s ε m => by
  rw [evalE, m.2.get (h s)]
  exact RL.ok m (.inr ⟨rfl, i, rfl, fun s => ⟨1, Nat.le_refl _, by omega, h s⟩⟩)⟩
theorem XE.cst : XE O Γ π (.cst d) (pv d) 0 0 π := ⟨fun _ => .refl _, fun s ε m => by
  rw [evalE]
  exact RL.ok m (.dat (Nat.le_refl _))⟩
theorem XE.cn {q : Nat} : XE O Γ π (.cn q) (pv .none) q 0 π := ⟨fun _ => .refl _, fun s ε m => by
  rw [evalE]
  exact RL.ok m (.dat (Nat.le_refl _))⟩
theorem XE.dnil : XE O Γ π .dnil (pv (.dict [])) 1 0 π := ⟨fun _ => .refl _, fun s ε m => by
  rw [evalE]
  exact RL.ok m (.dat (Nat.le_refl _))⟩
/-- less is asked -/
theorem XE.n0 (h : XE O Γ π a ma n k π1) (hk : k = 0) (hn : 0 < n) : XE O Γ π a ma 0 0 π1 := ⟨h.1, fun s ε m => by
  have := h.2 s ε m
  unfold RL at this ⊢
  split at this
  · trivial
  · obtain ⟨x, ε', e1, e2, e3⟩ := this
    refine ⟨x, ε', e1, e2, ?_⟩
    rcases e3 with ⟨q, hq, e⟩ | ⟨h0, _⟩
    · exact .inl ⟨q, Nat.zero_le _, e⟩
    · omega
  · exact this⟩
theorem XE.op {o : O2} (ha : XE O Γ π a ma 0 k1 π1) (hb : XE O Γ π1 b mb 0 k2 π2) : XE O Γ π (.op o a b) (opM n o ma mb) n 0 π2 := ⟨fun s => (ha.1 s).trans (hb.1 s), fun s ε m => by
  rw [evalE]
  refine ha.bind m fun x d s ε m hx => hb.bind m fun y e s ε m hy => ?_
  rw [(hx.mono hb.1).bor m, hy.bor m]
  exact RL.dep fun r _ hr => .ok m (.dat hr)⟩
theorem XE.neg (ha : XE O Γ π a ma 0 k1 π1) : XE O Γ π (.neg a) (negM ma) 0 0 π1 := ⟨ha.1, fun s ε m => by
  rw [evalE]
  refine ha.bind m fun x d s ε m hx => ?_
  rw [hx.rs m]
  cases d <;> first | trivial | skip
  exact RL.ok m (.dat (Nat.le_refl _))⟩
theorem XE.cmp {o : OC} (ha : XE O Γ π a ma 0 k1 π1) (hb : XE O Γ π1 b mb 0 k2 π2) : XE O Γ π (.cmp o a b) (cmpM o ma mb) 0 0 π2 := ⟨fun s => (ha.1 s).trans (hb.1 s), fun s ε m => by
  rw [evalE]
  refine ha.bind m fun x d s ε m hx => hb.bind m fun y e s ε m hy => ?_
  rw [(hx.mono hb.1).rs m, hy.rs m]
  exact RL.o fun r _ => .ok m (.dat (Nat.le_refl _))⟩
theorem XE.chain {o p : OC} (ha : XE O Γ π a ma 0 k1 π1) (hb : XE O Γ π1 b mb 0 k2 π1) (hc : XE O Γ π1 c mc 0 k3 π1) : XE O Γ π (.chain o p a b c) (chainM o p ma mb mc) 0 0 π1 := ⟨ha.1, fun s ε m => by
  rw [evalE]
  refine ha.bind m fun x d s ε m hx => hb.bind m fun y e s ε m hy => ?_
  rw [(hx.mono hb.1).rs m, hy.rs m]
  refine RL.o fun r _ => RL.ifb (fun _ => ?_) fun _ => RL.ok m (.dat (Nat.le_refl _))
  refine hc.bind m fun z f s ε m hz => ?_
  rw [(hy.mono hc.1).rs m, hz.rs m]
  exact RL.o fun r _ => .ok m (.dat (Nat.le_refl _))⟩
theorem XE.chain3 {o p q : OC} {e : IE} (ha : XE O Γ π a ma 0 k1 π1) (hb : XE O Γ π1 b mb 0 k2 π1) (hc : XE O Γ π1 c mc 0 k3 π1) (he : XE O Γ π1 e me 0 k4 π1) : XE O Γ π (.chain3 o p q a b c e) (chain3M o p q ma mb mc me) 0 0 π1 := ⟨ha.1, fun s ε m => by
  rw [evalE]
  refine ha.bind m fun x d s ε m hx => hb.bind m fun y e s ε m hy => ?_
  rw [(hx.mono hb.1).rs m, hy.rs m]
  refine RL.o fun r _ => RL.ifb (fun _ => ?_) fun _ => RL.ok m (.dat (Nat.le_refl _))
  refine hc.bind m fun z f s ε m hz => ?_
  rw [(hy.mono hc.1).rs m, hz.rs m]
  refine RL.o fun r _ => RL.ifb (fun _ => ?_) fun _ => RL.ok m (.dat (Nat.le_refl _))
  refine he.bind m fun u g s ε m hu => ?_
  rw [(hz.mono he.1).rs m, hu.rs m]
  exact RL.o fun r _ => .ok m (.dat (Nat.le_refl _))⟩
theorem RL.tru {x : D} {s : σ} {ε : Sg} {f : Bool → Sg → R β} {g : Bool → Mx σ α} {P : β → α → Prop} (q : RL Γ π P (f (truD x) ε) (g (truD x) s)) : RL Γ π P (if truOk x = true then f (truD x) ε else .st) (bd (truM x) g s) := by
  unfold truM
  by_cases h : truOk x = true
  · rw [if_pos h, if_pos h]; exact q
  · rw [if_neg h, if_neg h]; trivial
theorem XE.and (ha : XE O Γ π a ma 0 k π1) (hb : XE O Γ π1 b mb 0 k π1) : XE O Γ π (.and a b) (andM ma mb) 0 k π1 := ⟨ha.1, fun s ε m => by
  rw [evalE]
  refine ha.bind m fun x d s ε m hx => ?_
  rw [hx.rs m]
  refine RL.tru (f := fun t ε => if t = true then evalE O Γ b ε else .ok x ε) ?_
  cases truD d with
  | true => exact hb.2 s ε m
  | false => exact RL.ok m hx⟩
theorem XE.or (ha : XE O Γ π a ma 0 k π1) (hb : XE O Γ π1 b mb 0 k π1) : XE O Γ π (.or a b) (orM ma mb) 0 k π1 := ⟨ha.1, fun s ε m => by
  rw [evalE]
  refine ha.bind m fun x d s ε m hx => ?_
  rw [hx.rs m]
  refine RL.tru (f := fun t ε => if t = true then .ok x ε else evalE O Γ b ε) ?_
  cases truD d with
  | false => exact hb.2 s ε m
  | true => exact RL.ok m hx⟩
/-- a test -/
structure XT (O : Orc) (Γ : List Nat) (π : σ → Pt) (e : IE) (m : Mx σ Bool) (π' : σ → Pt) : Prop where
  le : ∀ s, Le (π s) (π' s)
  run : ∀ s ε, Mt Γ (π s) ε → RL Γ π' (fun a b => a = b) (tstR (evalE O Γ e ε)) (m s)
theorem XT.of (ha : XE O Γ π a ma 0 k π1) : XT O Γ π a (tsM ma) π1 := ⟨ha.1, fun s ε m => by
  unfold tstR tsM
  refine ha.bind m fun x d s ε m hx => ?_
  rw [hx.rs m]
  show RL Γ π1 _ (if truOk d = true then R.ok (truD d) ε else .st) (truM d s)
  unfold truM
  exact RL.if_ fun _ => RL.ok m rfl⟩
theorem XE.not (ha : XE O Γ π a ma 0 k π1) : XE O Γ π (.not a) (notM ma) 0 0 π1 := ⟨ha.1, fun s ε m => by
  rw [evalE]
  have e : notM ma s = bd ma (fun d => bd (truM d) fun t => pv (PyData.bool (!t))) s := by
    unfold notM tsM bd
    cases ma s <;> rfl
  rw [e]
  refine ha.bind m fun x d s ε m hx => ?_
  rw [hx.rs m]
  exact RL.tru (f := fun t ε => R.ok (EV.dat 0 (.bool (!t))) ε) (RL.ok m (.dat (Nat.le_refl _)))⟩
theorem XE.ife {mt : Mx σ Bool} (hc : XT O Γ π c mt π1) (ha : XE O Γ π1 a ma n k π1) (hb : XE O Γ π1 b mb n k π1) : XE O Γ π (.ife c a b) (iteM mt ma mb) n k π1 := ⟨hc.1, fun s ε m => by
  rw [evalE]
  refine RL.bind (hc.2 s ε m) fun t t' s ε m e => ?_
  subst e
  cases t with
  | true => exact ha.2 s ε m
  | false => exact hb.2 s ε m⟩
/-- a value that goes elsewhere -/
structure XQ (O : Orc) (Γ : List Nat) (π : σ → Pt) (e : IE) (m : Mx σ D) (n : Nat) (π' : σ → Pt) : Prop where
  le : ∀ s, Le (π s) (π' s)
  run : ∀ s ε, Mt Γ (π s) ε → RL Γ π' (fun (p : Nat × D) d => p.2 = d ∧ n ≤ p.1) ((evalE O Γ e ε).bind fun x ε1 => ofO (esc ε1 x) fun p => .ok (p.1, p.2.1) p.2.2) (m s)
theorem bd_pv (m : Mx σ α) : bd m pv = m := by
  funext s
  unfold bd pv
  cases m s <;> rfl
theorem XQ.of (ha : XE O Γ π a ma n 0 π1) : XQ O Γ π a ma n π1 := ⟨ha.1, fun s ε m => by
  rw [← bd_pv ma]
  refine ha.bind m fun x d s ε m hx => ?_
  obtain ⟨q, hq, e⟩ := hx.esc m
  rw [e]
  exact RL.ok m ⟨rfl, hq⟩⟩
theorem XQ.own {i : Nat} {j : Nat} (h : ∀ s, pget (π s) i = .v j d) : XQ O Γ π (.var i) (pv d) 0 (fun s => pset (π s) i (.v 0 d)) := ⟨fun s => .froz (h s), fun s ε m => by
  rw [evalE, m.2.get (h s)]
  show RL Γ _ _ (ofO ((sval ε i).map _) _) _
  rw [m.2.get (h s)]
  exact RL.ok ⟨by show (ε.set i _).length = _; rw [List.length_set]; exact m.1, m.2.set rfl⟩ ⟨rfl, Nat.zero_le _⟩⟩
/-- evaluating, then letting go, in one -/
theorem XQ.bind {P : β → α → Prop} {f : Nat × D × Sg → R β} {g : D → Mx σ α} {s : σ} {ε : Sg} (h : XQ O Γ π a ma n π1) (hm : Mt Γ (π s) ε) (q : ∀ p d s ε, Mt Γ (π1 s) ε → n ≤ p → RL Γ π2 P (f (p, d, ε)) (g d s)) : RL Γ π2 P ((evalE O Γ a ε).bind fun x ε1 => ofO (esc ε1 x) f) (bd ma g s) := by
  have e : ((evalE O Γ a ε).bind fun x ε1 => ofO (esc ε1 x) f) = ((evalE O Γ a ε).bind fun x ε1 => ofO (esc ε1 x) fun p => R.ok (p.1, p.2.1) p.2.2).bind fun p ε => f (p.1, p.2, ε) := by
    cases evalE O Γ a ε with
    | st => rfl
    | ex => rfl
    | ok x ε1 =>
      show ofO (esc ε1 x) f = (ofO (esc ε1 x) fun p => R.ok (p.1, p.2.1) p.2.2).bind _
      cases esc ε1 x <;> rfl
  rw [e]
  refine RL.bind (h.2 s ε hm) fun p d s ε m hp => ?_
  obtain ⟨rfl, hp2⟩ := hp
  exact q p.1 p.2 s ε m hp2
/-- values in a row -/
structure XL (O : Orc) (Γ : List Nat) (π : σ → Pt) (es : IEs) (l : List (Mx σ D)) (π' : σ → Pt) : Prop where
  le : ∀ s, Le (π s) (π' s)
  run : ∀ s ε, Mt Γ (π s) ε → RL Γ π' (fun a b => a = b) (evalL O Γ 0 es ε) (sqM l s)
theorem XL.nil : XL O Γ π .nil [] π := ⟨fun _ => .refl _, fun s ε m => by rw [evalL]; exact RL.ok m rfl⟩
theorem XL.cons {es : IEs} {l : List (Mx σ D)} (ha : XQ O Γ π a ma 0 π1) (hr : XL O Γ π1 es l π2) : XL O Γ π (.cons a es) (ma :: l) π2 := ⟨fun s => (ha.1 s).trans (hr.1 s), fun s ε m => by
  rw [evalL]
  refine ha.bind m fun p d s ε m _ => ?_
  show RL Γ π2 _ (if 0 ≤ p then _ else _) _
  rw [if_pos (Nat.zero_le _)]
  refine RL.bind (hr.2 s ε m) fun xs ys s ε m e => ?_
  subst e
  exact RL.ok m rfl⟩
theorem XE.tup {es : IEs} {l : List (Mx σ D)} (h : XL O Γ π es l π1) : XE O Γ π (.tup es) (tupM l) 0 0 π1 := ⟨h.1, fun s ε m => by
  rw [evalE]
  refine RL.bind (h.2 s ε m) fun xs ys s ε m e => ?_
  subst e
  exact RL.if_ fun _ => RL.ok m (.dat (Nat.le_refl _))⟩
theorem XE.lst {es : IEs} {l : List (Mx σ D)} (h : XL O Γ π es l π1) : XE O Γ π (.lst 0 es) (lstM l) 1 0 π1 := ⟨h.1, fun s ε m => by
  rw [evalE]
  refine RL.bind (h.2 s ε m) fun xs ys s ε m e => ?_
  subst e
  exact RL.if_ fun _ => RL.ok m (.dat (Nat.le_refl _))⟩
theorem XE.ix {i : IE} {mi : Mx σ D} (ha : XE O Γ π a ma 0 k1 π1) (hb : XE O Γ π1 i mi 0 k2 π2) : XE O Γ π (.ix a i) (ixM ma mi) 0 0 π2 := ⟨fun s => (ha.1 s).trans (hb.1 s), fun s ε m => by
  rw [evalE]
  refine ha.bind m fun x d s ε m hx => hb.bind m fun y e s ε m hy => ?_
  rw [hy.rs m]
  cases e <;> first | trivial | skip
  rename_i i
  show RL Γ π2 _ (ofO (rs ε x) _) (oM (getI d i) s)
  rw [(hx.mono hb.1).rs m]
  show RL Γ π2 _ (ofO (getI d i) _) (oM (getI d i) s)
  cases getI d i with
  | none => trivial
  | some g =>
    show RL Γ π2 _ (if scalD g = true then _ else _) (pv g s)
    by_cases q : scalD g = true
    · rw [if_pos q]; exact RL.ok m (.dat (Nat.le_refl _))
    · rw [if_neg q, (hx.mono hb.1).bor m]; exact RL.ok m (.dat (Nat.le_refl _))⟩
structure XP (O : Orc) (Γ : List Nat) (π : σ → Pt) (e : IP) (m : Mx σ (Option Int)) (π' : σ → Pt) : Prop where
  le : ∀ s, Le (π s) (π' s)
  run : ∀ s ε, Mt Γ (π s) ε → RL Γ π' (fun a b => a = b) (evalP O Γ e ε) (m s)
theorem XP.no : XP O Γ π .no noP π := ⟨fun _ => .refl _, fun s ε m => by rw [evalP]; exact RL.ok m rfl⟩
theorem XP.ex (ha : XE O Γ π a ma 0 k1 π1) : XP O Γ π (.ex a) (exP ma) π1 := ⟨ha.1, fun s ε m => by
  rw [evalP]
  refine ha.bind m fun x d s ε m hx => ?_
  rw [hx.rs m]
  cases d <;> first | trivial | skip
  exact RL.ok m rfl⟩
theorem XE.sl {lo hi : IP} {ml mh : Mx σ (Option Int)} (ha : XE O Γ π a ma 0 k1 π1) (hl : XP O Γ π1 lo ml π2) (hh : XP O Γ π2 hi mh π3) : XE O Γ π (.sl a lo hi) (slM n ma ml mh) n 0 π3 := ⟨fun s => ((ha.1 s).trans (hl.1 s)).trans (hh.1 s), fun s ε m => by
  rw [evalE]
  refine ha.bind m fun x d s ε m hx => ?_
  refine RL.bind (hl.2 s ε m) fun l l' s ε m e => ?_
  subst e
  refine RL.bind (hh.2 s ε m) fun h h' s ε m e => ?_
  subst e
  rw [((hx.mono hl.1).mono hh.1).bor m]
  exact RL.dep fun r _ hr => .ok m (.dat hr)⟩
theorem XE.rev (ha : XE O Γ π a ma 0 k1 π1) : XE O Γ π (.rev a) (revM ma) 1 0 π1 := ⟨ha.1, fun s ε m => by
  rw [evalE]
  refine ha.bind m fun x d s ε m hx => ?_
  rw [hx.bor m]
  cases d <;> first | trivial | skip
  exact RL.ok m (.dat (Nat.le_refl _))⟩
theorem XE.b1 {f : B1} (ha : XE O Γ π a ma 0 k1 π1) : XE O Γ π (.b1 f a) (b1M n f ma) n 0 π1 := ⟨ha.1, fun s ε m => by
  rw [evalE]
  refine ha.bind m fun x d s ε m hx => ?_
  rw [hx.bor m]
  exact RL.dep fun r _ hr => .ok m (.dat hr)⟩
theorem XE.b2 {f : B2} (ha : XE O Γ π a ma 0 k1 π1) (hb : XE O Γ π1 b mb 0 k2 π2) : XE O Γ π (.b2 f a b) (b2M f ma mb) 0 0 π2 := ⟨fun s => (ha.1 s).trans (hb.1 s), fun s ε m => by
  rw [evalE]
  refine ha.bind m fun x d s ε m hx => hb.bind m fun y e s ε m hy => ?_
  rw [(hx.mono hb.1).rs m, hy.rs m]
  exact RL.dep fun r _ hr => .ok m (.dat hr)⟩
theorem XE.mth {f : B2} (ha : XE O Γ π a ma 0 k1 π1) (hb : XE O Γ π1 b mb 0 k2 π2) : XE O Γ π (.mth f a b) (mthM f ma mb) 0 0 π2 := ⟨fun s => (ha.1 s).trans (hb.1 s), fun s ε m => by
  rw [evalE]
  refine ha.bind m fun x d s ε m hx => ?_
  rw [hx.rs m]
  cases d <;> first | trivial | skip
  refine hb.bind m fun y e s ε m hy => ?_
  rw [(hx.mono hb.1).rs m, hy.rs m]
  exact RL.dep fun r _ hr => .ok m (.dat hr)⟩
/-! what is walked -/
structure XI (O : Orc) (Γ : List Nat) (π : σ → Pt) (it : II) (m : Mx σ (List D)) (π' : σ → Pt) : Prop where
  le : ∀ s, Le (π s) (π' s)
  run : ∀ s ε, Mt Γ (π s) ε → RL Γ π' (fun a b => a = b) (evalI O Γ it ε) (m s)
theorem XI.seq (ha : XQ O Γ π a ma 0 π1) : XI O Γ π (.seq a) (seqI ma) π1 := ⟨ha.1, fun s ε m => by
  rw [evalI]
  refine ha.bind m fun p d s ε m _ => ?_
  cases d <;> first | trivial | skip
  · exact RL.ok m rfl
  · exact RL.ok m rfl⟩
theorem XI.enum (ha : XQ O Γ π a ma 0 π1) : XI O Γ π (.enum a) (enI ma) π1 := ⟨ha.1, fun s ε m => by
  rw [evalI]
  refine ha.bind m fun p d s ε m _ => ?_
  cases d <;> first | trivial | skip
  exact RL.ok m rfl⟩
theorem XI.range1 (ha : XE O Γ π a ma 0 k1 π1) : XI O Γ π (.range1 a) (rg1 ma) π1 := ⟨ha.1, fun s ε m => by
  rw [evalI]
  refine ha.bind m fun x d s ε m hx => ?_
  rw [hx.rs m]
  cases d <;> first | trivial | skip
  exact RL.if_ fun _ => RL.ok m rfl⟩
theorem XI.range2 (ha : XE O Γ π a ma 0 k1 π1) (hb : XE O Γ π1 b mb 0 k2 π2) : XI O Γ π (.range2 a b) (rg2 ma mb) π2 := ⟨fun s => (ha.1 s).trans (hb.1 s), fun s ε m => by
  rw [evalI]
  refine ha.bind m fun x d s ε m hx => hb.bind m fun y e s ε m hy => ?_
  rw [(hx.mono hb.1).rs m, hy.rs m]
  cases d <;> first | trivial | skip
  cases e <;> first | trivial | skip
  exact RL.if_ fun _ => RL.ok m rfl⟩
theorem XI.zip (ha : XQ O Γ π a ma 0 π1) (hb : XQ O Γ π1 b mb 0 π2) : XI O Γ π (.zip a b) (zpI ma mb) π2 := ⟨fun s => (ha.1 s).trans (hb.1 s), fun s ε m => by
  rw [evalI]
  refine ha.bind m fun p d s ε m _ => hb.bind m fun q e s ε m _ => ?_
  cases d <;> first | trivial | skip
  cases e <;> first | trivial | skip
  exact RL.ok m rfl⟩
end
end Kr

set_option Elab.async false
set_option linter.all false
set_option maxRecDepth 100000
set_option maxHeartbeats 1000000
namespace Kr
open PySem PySem.Spec PyProof.Rows L2
section
variable {σ α β : Type} {Γ : List Nat} {O : Orc} {π π0 π1 π2 π3 π4 : σ → Pt} {n k k1 k2 k3 k4 : Nat} {a b c e : IE} {ma mb mc md me : Mx σ D} {d : D}
/-! targets -/
structure TB (Γ : List Nat) (t : TG) (π : σ → Pt) (d : D) (m : Mx σ α) (J : (σ → Pt) → Mx σ α → Prop) : Prop where
  run : ∀ s ε, Mt Γ (π s) ε → m s = .st ∨ ∃ ε1 π1 m1, setTG Γ t d ε = some ε1 ∧ Mt Γ (π1 s) ε1 ∧ m1 s = m s ∧ J π1 m1
structure TBs (Γ : List Nat) (ts : TGs) (π : σ → Pt) (ds : List D) (m : Mx σ α) (J : (σ → Pt) → Mx σ α → Prop) : Prop where
  run : ∀ s ε, Mt Γ (π s) ε → m s = .st ∨ ∃ ε1 π1 m1, setTGs Γ ts ds ε = some ε1 ∧ Mt Γ (π1 s) ε1 ∧ m1 s = m s ∧ J π1 m1
theorem setSl_at {Γ : List Nat} {i m k : Nat} {d : D} {ε : Sg} (h : Γ[i]? = some k) (hk : k < 1000) (hm : k ≤ m) (hl : ε.length = Γ.length) : setSl Γ i m d ε = some (ε.set i (.v k d)) := by
  unfold setSl
  rw [h]
  have hi : i < Γ.length := by
    rcases Nat.lt_or_ge i Γ.length with q | q
    · exact q
    · rw [List.getElem?_eq_none q] at h; cases h
  show (if k ≤ m ∧ k < 1000 then (if i < ε.length then _ else _) else _) = _
  rw [if_pos ⟨hm, hk⟩, if_pos (by omega)]
theorem TB.name {i : Nat} {m : Mx σ α} {J : (σ → Pt) → Mx σ α → Prop} (h : Γ[i]? = some 0) (j : J (fun s => pset (π s) i (.v 0 d)) m) : TB Γ (.name i) π d m J := .mk fun s ε hm => by
  refine .inr ⟨ε.set i (.v 0 d), fun s => pset (π s) i (.v 0 d), m, ?_, ⟨by rw [List.length_set]; exact hm.1, MtL.set (p := .v 0 d) hm.2 rfl⟩, rfl, j⟩
  rw [setTG]
  exact setSl_at h (by omega) (Nat.le_refl _) hm.1
theorem TBs.nil {m : Mx σ α} {J : (σ → Pt) → Mx σ α → Prop} (j : J π m) : TBs Γ .nil π [] m J := .mk fun s ε hm => .inr ⟨ε, π, m, by rw [setTGs], hm, rfl, j⟩
theorem TBs.cons {t : TG} {ts : TGs} {ds : List D} {m : Mx σ α} {J : (σ → Pt) → Mx σ α → Prop} (h : TB Γ t π d m fun π1 m1 => TBs Γ ts π1 ds m1 J) : TBs Γ (.cons t ts) π (d :: ds) m J := .mk fun s ε hm => by
  rcases h.run s ε hm with q | ⟨ε1, π1, m1, e1, hm1, q1, r1⟩
  · exact .inl q
  · rcases r1.run s ε1 hm1 with q | ⟨ε2, π2, m2, e2, hm2, q2, r2⟩
    · exact .inl (q1.symm.trans q)
    · refine .inr ⟨ε2, π2, m2, ?_, hm2, q2.trans q1, r2⟩
      rw [setTGs, e1]
      exact e2
theorem TB.tup {ts : TGs} {ds : List D} {m : Mx σ α} {J : (σ → Pt) → Mx σ α → Prop} (h : TBs Γ ts π ds m J) : TB Γ (.tup ts) π (.tuple ds) m J := .mk fun s ε hm => by
  rcases h.run s ε hm with q | ⟨ε1, π1, m1, e1, r⟩
  · exact .inl q
  · exact .inr ⟨ε1, π1, m1, by rw [setTG]; exact e1, r⟩
theorem TB.tupl {ts : TGs} {ds : List D} {m : Mx σ α} {J : (σ → Pt) → Mx σ α → Prop} (h : TBs Γ ts π ds m J) : TB Γ (.tup ts) π (.list ds) m J := .mk fun s ε hm => by
  rcases h.run s ε hm with q | ⟨ε1, π1, m1, e1, r⟩
  · exact .inl q
  · exact .inr ⟨ε1, π1, m1, by rw [setTG]; exact e1, r⟩
theorem TB.st {t : TG} {J : (σ → Pt) → Mx σ α → Prop} : TB Γ t π d stM J := .mk fun s ε hm => .inl rfl
theorem TB.imp {t : TG} {m : Mx σ α} {J J' : (σ → Pt) → Mx σ α → Prop} (h : TB Γ t π d m J) (i : ∀ π m, J π m → J' π m) : TB Γ t π d m J' := .mk fun s ε hm => by
  rcases h.run s ε hm with q | ⟨ε1, π1, m1, e1, hm1, q1, r1⟩
  · exact .inl q
  · exact .inr ⟨ε1, π1, m1, e1, hm1, q1, i _ _ r1⟩
theorem TB.un2 {t1 t2 : TG} {f : D → D → Mx σ α} {J : (σ → Pt) → Mx σ α → Prop} (h : ∀ a b, TB Γ t1 π a (f a b) fun π1 m1 => TB Γ t2 π1 b m1 J) : TB Γ (.tup (.cons t1 (.cons t2 .nil))) π d (un2 d f) J := by
  unfold Kr.un2
  split
  · exact .tup (.cons ((h _ _).imp fun _ _ q => .cons (q.imp fun _ _ q => .nil q)))
  · exact .tupl (.cons ((h _ _).imp fun _ _ q => .cons (q.imp fun _ _ q => .nil q)))
  · exact .st
theorem TB.un3 {t1 t2 t3 : TG} {f : D → D → D → Mx σ α} {J : (σ → Pt) → Mx σ α → Prop} (h : ∀ a b c, TB Γ t1 π a (f a b c) fun π1 m1 => TB Γ t2 π1 b m1 fun π2 m2 => TB Γ t3 π2 c m2 J) : TB Γ (.tup (.cons t1 (.cons t2 (.cons t3 .nil)))) π d (un3 d f) J := by
  unfold Kr.un3
  split
  · exact .tup (.cons ((h _ _ _).imp fun _ _ q => .cons (q.imp fun _ _ q => .cons (q.imp fun _ _ q => .nil q))))
  · exact .st
theorem TB.un4 {t1 t2 t3 t4 : TG} {f : D → D → D → D → Mx σ α} {J : (σ → Pt) → Mx σ α → Prop} (h : ∀ a b c e, TB Γ t1 π a (f a b c e) fun π1 m1 => TB Γ t2 π1 b m1 fun π2 m2 => TB Γ t3 π2 c m2 fun π3 m3 => TB Γ t4 π3 e m3 J) : TB Γ (.tup (.cons t1 (.cons t2 (.cons t3 (.cons t4 .nil))))) π d (un4 d f) J := by
  unfold Kr.un4
  split
  · exact .tup (.cons ((h _ _ _ _).imp fun _ _ q => .cons (q.imp fun _ _ q => .cons (q.imp fun _ _ q => .cons (q.imp fun _ _ q => .nil q)))))
  · exact .st
theorem TB.un5 {t1 t2 t3 t4 t5 : TG} {f : D → D → D → D → D → Mx σ α} {J : (σ → Pt) → Mx σ α → Prop} (h : ∀ a b c e g, TB Γ t1 π a (f a b c e g) fun π1 m1 => TB Γ t2 π1 b m1 fun π2 m2 => TB Γ t3 π2 c m2 fun π3 m3 => TB Γ t4 π3 e m3 fun π4 m4 => TB Γ t5 π4 g m4 J) : TB Γ (.tup (.cons t1 (.cons t2 (.cons t3 (.cons t4 (.cons t5 .nil)))))) π d (un5 d f) J := by
  unfold Kr.un5
  split
  · exact .tup (.cons ((h _ _ _ _ _).imp fun _ _ q => .cons (q.imp fun _ _ q => .cons (q.imp fun _ _ q => .cons (q.imp fun _ _ q => .cons (q.imp fun _ _ q => .nil q))))))
  · exact .st
/-! comprehensions -/
structure XK (O : Orc) (Γ : List Nat) (own : List Nat) (c e : IE) (π1 : σ → Pt) (π2 : σ → Pt) (m : Mx σ (Option D)) : Prop where
  run : ∀ s ε, Mt Γ (π2 s) ε → RL Γ π1 (fun (p : Option (Nat × D)) (q : Option D) => p.map (·.2) = q) ((tstR (evalE O Γ c ε)).bind fun b ε3 => if b = true then (evalE O Γ e ε3).bind fun y ε4 => ofO (esc ε4 y) fun (m, r, ε5) => .ok (some (m, r)) (wipeS own ε5) else .ok none (wipeS own ε3)) (m s)
theorem Mt.wipe {own : List Nat} {p q : Pt} {ε : Sg} (h : Mt Γ p ε) (e : wipeP own p = q) : Mt Γ q (wipeS own ε) := ⟨by rw [wipeS_lenX]; exact h.1, by rw [← e]; exact h.2.wipe⟩
theorem XK.keep {own : List Nat} {mc : Mx σ D} (hc : XE O Γ π2 c mc 0 k π3) (he : XQ O Γ π3 e me 0 π3) (hw : ∀ s, wipeP own (π3 s) = π1 s) : XK O Γ own c e π1 π2 (keepM mc me) := .mk fun s ε m => by
  unfold keepM
  refine RL.bind ((XT.of hc).2 s ε m) fun t t' s ε m q => ?_
  subst q
  refine RL.ifb (fun _ => ?_) fun _ => RL.ok (m.wipe (hw s)) rfl
  exact he.bind m fun p d s ε m _ => RL.ok (m.wipe (hw s)) rfl
theorem XK.all {own : List Nat} (he : XQ O Γ π2 e me 0 π2) (hw : ∀ s, wipeP own (π2 s) = π1 s) : XK O Γ own (.cst (.bool true)) e π1 π2 (allM me) := .mk fun s ε m => by
  rw [evalE]
  show RL Γ π1 _ ((evalE O Γ e ε).bind _) (allM me s)
  exact he.bind m fun p d s ε m _ => RL.ok (m.wipe (hw s)) rfl
theorem comp_rl {f : D → Sg → R (Option (Nat × D))} {g : D → Mx σ (Option D)} (h : ∀ d s ε, Mt Γ (π s) ε → RL Γ π (fun (p : Option (Nat × D)) (q : Option D) => p.map (·.2) = q) (f d ε) (g d s)) : ∀ (ds acc : List D) (s : σ) (ε : Sg), Mt Γ (π s) ε → RL Γ π (fun a b => a = b) (compL f 0 ds acc ε) (compG g ds acc s)
  | [], acc, s, ε, m => by rw [compL, compG]; exact RL.ok m rfl
  | d :: ds, acc, s, ε, m => by
    rw [compL, compG]
    have q := h d s ε m
    unfold bd nex
    unfold RL at q
    generalize g d s = z at q
    cases z with
    | st => trivial
    | ex c x => trivial
    | ok p =>
      obtain ⟨p, s'⟩ := p
      obtain ⟨x, ε', e1, m', e2⟩ := q
      rw [e1]
      cases x with
      | none =>
        cases e2
        exact comp_rl h ds acc s' ε' m'
      | some y =>
        obtain ⟨y1, y2⟩ := y
        cases e2
        show RL Γ π _ (if 0 ≤ y1 ∧ acc.length < sizeLine then _ else _) ((if acc.length < sizeLine then compG g ds (acc ++ [y2]) else stM) s')
        by_cases q : acc.length < sizeLine
        · rw [if_pos ⟨Nat.zero_le _, q⟩, if_pos q]
          exact comp_rl h ds _ s' ε' m'
        · rw [if_neg q]
          trivial
theorem XE.comp {own : List Nat} {t : TG} {it : II} {mi : Mx σ (List D)} {f : D → Mx σ (Option D)} (hI : XI O Γ π it mi π1) (hw : ∀ s, wipeP own (π1 s) = π1 s) (hB : ∀ d, TB Γ t π1 d (f d) (XK O Γ own c e π1)) : XE O Γ π (.comp 0 own t it c e) (compM mi f) 1 0 π1 := ⟨hI.1, fun s ε m => by
  rw [evalE]
  refine RL.bind (hI.2 s ε m) fun ds ds' s ε m q => ?_
  subst q
  refine RL.bind (comp_rl (fun d s ε m => ?_) ds [] s _ (m.wipe (hw s))) fun acc acc' s ε m q => ?_
  · rcases (hB d).run s ε m with q | ⟨ε1, π2, m1, e1, hm1, q1, j⟩
    · rw [q]; trivial
    · rw [e1, ← q1]
      exact j.run s ε1 hm1
  · subst q
    exact RL.ok m (.dat (Nat.le_refl _))⟩
/-! calls -/
def Sh (n : Nat) (o : Option CRes) (r : Rs D) : Prop := match r with
  | .st => True
  | .ok d => o = some (.ret n d [])
  | .ex c d => o = some (.ex c d [])
def ShG (n : Nat) (o : Option CRes) (r : Rs (D × D)) : Prop := match r with
  | .ok p => o = some (.ret n p.1 [p.2])
  | _ => True
structure XA (O : Orc) (Γ : List Nat) (π : σ → Pt) (es : IEs) (ms : List PM) (l : List (Mx σ D)) (π' : σ → Pt) : Prop where
  sh : allSh ms = true
  le : ∀ s, Le (π s) (π' s)
  run : ∀ s ε, Mt Γ (π s) ε → RL Γ π' (fun a b => a = b.map (EV.dat 0) ∧ b.length = ms.length) (evalA O Γ es ms ε) (sqM l s)
theorem XA.nil : XA O Γ π .nil [] [] π := ⟨rfl, fun _ => .refl _, fun s ε m => by rw [evalA]; exact RL.ok m ⟨rfl, rfl⟩⟩
theorem XA.cons {es : IEs} {ms : List PM} {l : List (Mx σ D)} (ha : XQ O Γ π a ma 0 π1) (hr : XA O Γ π1 es ms l π2) : XA O Γ π (.cons a es) (.sh :: ms) (ma :: l) π2 := ⟨hr.1, fun s => (ha.1 s).trans (hr.le s), fun s ε m => by
  rw [evalA]
  have e : (fun (x : EV) (ε1 : Sg) => (passArg .sh x ε1).bind fun y ε2 => (evalA O Γ es ms ε2).bind fun ys ε3 => R.ok (y :: ys) ε3) = fun x ε1 => ofO (esc ε1 x) fun p => (evalA O Γ es ms p.2.2).bind fun ys ε3 => R.ok (EV.dat 0 p.2.1 :: ys) ε3 := by
    funext x ε1
    show (ofO (esc ε1 x) fun p => R.ok (EV.dat 0 p.2.1) p.2.2).bind _ = _
    cases esc ε1 x <;> rfl
  rw [e]
  refine ha.bind m fun p d s ε m _ => ?_
  refine RL.bind (hr.run s ε m) fun xs ys s ε m q => ?_
  obtain ⟨q1, q2⟩ := q
  subst q1
  exact RL.ok m ⟨rfl, by simp [q2]⟩⟩
theorem ioOk_sh {ε : Sg} : ∀ {ms : List PM} {ds : List D}, allSh ms = true → ds.length = ms.length → ioOk ε (ds.map (EV.dat 0)) ms = true
  | [], [], _, _ => rfl
  | [], _ :: _, _, h => by simp at h
  | _ :: _, [], _, h => by simp at h
  | .sh :: ms, d :: ds, h, hl => by
    show (0 == 0 && ioOk ε (ds.map (EV.dat 0)) ms) = true
    rw [ioOk_sh (ms := ms) h (by simpa using hl)]; rfl
  | .own _ :: _, _ :: _, h, _ => by cases h
  | .io _ :: _, _ :: _, h, _ => by cases h
theorem argD_sh {ε : Sg} : ∀ (ds : List D), argD ε (ds.map (EV.dat 0)) = some ds
  | [] => rfl
  | d :: ds => by
    show (argD ε (ds.map (EV.dat 0))).map (d :: ·) = _
    rw [argD_sh ds]; rfl
theorem putIo_sh {ε : Sg} : ∀ {ms : List PM} {ds : List D}, allSh ms = true → ds.length = ms.length → putIo (ds.map (EV.dat 0)) ms [] ε = some ε
  | [], [], _, _ => rfl
  | [], _ :: _, _, h => by simp at h
  | _ :: _, [], _, h => by simp at h
  | .sh :: ms, d :: ds, h, hl => putIo_sh (ms := ms) (ds := ds) h (by simpa using hl)
  | .own _ :: _, _ :: _, h, _ => by cases h
  | .io _ :: _, _ :: _, h, _ => by cases h
theorem XE.call {f : String} {es : IEs} {ms : List PM} {l : List (Mx σ D)} {F : List D → Rs D} (hm : O.modes f = some ms) (hF : ∀ ds, Sh n (O.call f ds) (F ds)) (h : XA O Γ π es ms l π1) : XE O Γ π (.call f es) (callM F l) n 0 π1 := ⟨h.le, fun s ε m => by
  rw [evalE, hm]
  refine RL.bind (h.run s ε m) fun xs ys s ε m q => ?_
  obtain ⟨q1, q2⟩ := q
  subst q1
  rw [if_pos (ioOk_sh h.1 q2), argD_sh]
  show RL Γ π1 _ (ofO (O.call f ys) _) (lf (F ys) s)
  have z := hF ys
  unfold Sh at z
  unfold lf
  generalize F ys = w at z
  cases w with
  | st => trivial
  | ok d =>
    simp only at z
    rw [z]
    show RL Γ π1 _ (ofO (putIo _ _ [] ε) _) _
    rw [putIo_sh h.1 q2]
    exact RL.ok m (.dat (Nat.le_refl _))
  | ex c d =>
    simp only at z
    rw [z]
    show RL Γ π1 _ (ofO (putIo _ _ [] ε) _) _
    rw [putIo_sh h.1 q2]
    exact ⟨ε, rfl, m.1⟩⟩
theorem XE.callk {f : String} {js : List Nat} {es ks : IEs} {ms : List PM} {l l2 : List (Mx σ D)} {F : List D → Rs D} (hm : O.modes f = some ms) (hs : allSh ms = true) (hF : ∀ ds, Sh n (O.call f ds) (F ds)) (h : XL O Γ π es l π1) (h2 : XL O Γ π1 ks l2 π2) : XE O Γ π (.callk f js es ks) (callKM F js l l2) n 0 π2 := ⟨fun s => (h.1 s).trans (h2.1 s), fun s ε m => by
  rw [evalE, hm]
  refine RL.bind (h.2 s ε m) fun xs ys s ε m q => ?_
  subst q
  refine RL.bind (h2.2 s ε m) fun zs ys s ε m q => ?_
  subst q
  rw [if_pos hs]
  refine RL.o fun ds _ => ?_
  show RL Γ π2 _ (ofO (O.call f ds) _) (lf (F ds) s)
  have z := hF ds
  unfold Sh at z
  unfold lf
  generalize F ds = w at z
  cases w with
  | st => trivial
  | ok d =>
    simp only at z
    rw [z]
    exact RL.ok m (.dat (Nat.le_refl _))
  | ex c d =>
    simp only at z
    rw [z]
    exact ⟨ε, rfl, m.1⟩⟩
/-- a def that changes the list in slot i, which is its first argument -/
theorem XE.callG {O : Orc} {f : String} {es : IEs} {ms : List PM} {l : List (Mx D D)} {i : Nat} {F : D → List D → Rs (D × D)} {π : D → Pt} (hm : O.modes f = some (.io 1 :: ms)) (hF : ∀ s ds, ShG n (O.call f (s :: ds)) (F s ds)) (hi : ∀ s, pget (π s) i = .v 1 s) (hp : ∀ s s', pset (π s) i (.v 1 s') = π s') (h : XA O Γ π es ms l π) : XE O Γ π (.call f (.cons (.var i) es)) (Kr.callG F l) n 0 π := ⟨fun s => .refl _, fun s ε m => by
  rw [evalE, hm]
  show RL Γ π _ ((evalA O Γ (.cons (.var i) es) (.io 1 :: ms) ε).bind _) _
  rw [evalA, evalE, m.2.get (hi s)]
  show RL Γ π _ (((evalA O Γ es ms ε).bind fun ys ε3 => R.ok (EV.loc i :: ys) ε3).bind _) _
  have as : ∀ {α β γ : Type} (r : R α) (f : α → Sg → R β) (g : β → Sg → R γ), (r.bind f).bind g = r.bind fun a ε => (f a ε).bind g := fun r f g => by cases r <;> rfl
  rw [as]
  refine RL.bind (h.run s ε m) fun xs ys s ε m q => ?_
  obtain ⟨q1, q2⟩ := q
  subst q1
  have sv := m.2.get (hi s)
  have e1 : ioOk ε (EV.loc i :: ys.map (EV.dat 0)) (.io 1 :: ms) = true := by
    show ((match sval ε i with | some (m, _) => m == 1 && decide (0 < 1) | none => false) && ioOk ε (ys.map (EV.dat 0)) ms && (ys.map (EV.dat 0)).all _) = true
    rw [sv, ioOk_sh h.1 q2]
    show (ys.map (EV.dat 0)).all _ = true
    rw [List.all_map, List.all_eq_true]
    intro x hx
    rfl
  have e2 : argD ε (EV.loc i :: ys.map (EV.dat 0)) = some (s :: ys) := by
    show ((sval ε i).map _).bind _ = _
    rw [sv]
    show (argD ε (ys.map (EV.dat 0))).map _ = _
    rw [argD_sh]; rfl
  show RL Γ π _ (if ioOk ε (EV.loc i :: ys.map (EV.dat 0)) (.io 1 :: ms) = true then ofO (argD ε (EV.loc i :: ys.map (EV.dat 0))) _ else _) _
  rw [if_pos e1, e2]
  show RL Γ π _ (ofO (O.call f (s :: ys)) _) (match F s ys with | .st => .st | .ok p => .ok p | .ex _ _ => .st)
  have z := hF s ys
  unfold ShG at z
  generalize F s ys = w at z
  cases w with
  | st => trivial
  | ex c d => trivial
  | ok p =>
    simp only at z
    rw [z]
    show RL Γ π _ (ofO (putIo (ys.map (EV.dat 0)) ms [] (ε.set i (.v 1 p.2))) _) _
    rw [putIo_sh h.1 q2]
    refine RL.ok (π := π) (b := p.1) (s := p.2) ⟨by rw [List.length_set]; exact m.1, ?_⟩ (.dat (Nat.le_refl _))
    rw [← hp s p.2]
    exact m.2.set rfl⟩
/-- .. of a list that is made for it -/
theorem XE.callT {f : String} {es : IEs} {ms : List PM} {l : List (Mx σ D)} {F : D → List D → Rs (D × D)} {mg : Mx σ D} {g : IE} (hm : O.modes f = some (.io 1 :: ms)) (hF : ∀ s ds, ShG n (O.call f (s :: ds)) (F s ds)) (hg : XE O Γ π g mg 1 0 π1) (h : XA O Γ π1 es ms l π2) : XE O Γ π (.call f (.cons g es)) (Kr.callT F mg l) n 0 π2 := ⟨fun s => (hg.1 s).trans (h.le s), fun s ε m => by
  rw [evalE, hm]
  show RL Γ π2 _ ((evalA O Γ (.cons g es) (.io 1 :: ms) ε).bind _) _
  rw [evalA]
  have as : ∀ {α β γ : Type} (r : R α) (f : α → Sg → R β) (g : β → Sg → R γ), (r.bind f).bind g = r.bind fun a ε => (f a ε).bind g := fun r f g => by cases r <;> rfl
  rw [as]
  refine hg.bind m fun x d s ε m hx => ?_
  rcases hx with ⟨q, hq, rfl⟩ | ⟨h0, _⟩
  · show RL Γ π2 _ (((if 1 ≤ q then R.ok (EV.dat 1 d) ε else .st).bind _).bind _) _
    rw [if_pos hq]
    show RL Γ π2 _ (((evalA O Γ es ms ε).bind _).bind _) _
    rw [as]
    refine RL.bind (h.run s ε m) fun xs ys s ε m q => ?_
    obtain ⟨q1, q2⟩ := q
    subst q1
    have e1 : ioOk ε (EV.dat 1 d :: ys.map (EV.dat 0)) (.io 1 :: ms) = true := by
      show (1 == 1 && ioOk ε (ys.map (EV.dat 0)) ms) = true
      rw [ioOk_sh h.1 q2]; rfl
    have e2 : argD ε (EV.dat 1 d :: ys.map (EV.dat 0)) = some (d :: ys) := by
      show (argD ε (ys.map (EV.dat 0))).map _ = _
      rw [argD_sh]; rfl
    show RL Γ π2 _ (if ioOk ε (EV.dat 1 d :: ys.map (EV.dat 0)) (.io 1 :: ms) = true then ofO (argD ε (EV.dat 1 d :: ys.map (EV.dat 0))) _ else _) _
    rw [if_pos e1, e2]
    show RL Γ π2 _ (ofO (O.call f (d :: ys)) _) (match F d ys with | .st => .st | .ok p => .ok (p.1, s) | .ex _ _ => .st)
    have z := hF d ys
    unfold ShG at z
    generalize F d ys = w at z
    cases w with
    | st => trivial
    | ex c d => trivial
    | ok p =>
      simp only at z
      rw [z]
      show RL Γ π2 _ (ofO (putIo (ys.map (EV.dat 0)) ms [] ε) _) _
      rw [putIo_sh h.1 q2]
      exact RL.ok (b := p.1) m (.dat (Nat.le_refl _))
  · omega⟩
end
end Kr

set_option Elab.async false
set_option linter.all false
set_option maxRecDepth 100000
set_option maxHeartbeats 1000000
namespace Kr
open PySem PySem.Spec PyProof.Rows L2
def appI : ISs → ISs → ISs
  | .nil, r => r
  | .cons s ss, r => .cons s (appI ss r)
theorem execs_app {O : Orc} {Γ : List Nat} {rd : Nat} : ∀ (a b : ISs) (ε : Sg), execs O Γ rd (appI a b) ε = (execs O Γ rd a ε).seq fun ε' => execs O Γ rd b ε'
  | .nil, b, ε => by rw [appI, execs]; rfl
  | .cons s ss, b, ε => by
    rw [appI, execs, execs]
    cases exec O Γ rd s ε with
    | nx ε' => exact execs_app ss b ε'
    | st => rfl
    | rt => rfl
    | bk => rfl
    | ct => rfl
    | ex => rfl
section
variable {σ : Type} {Γ : List Nat} {O : Orc} {rd : Nat}
/-- how a block answers a plain function -/
def RO {ρ γ : Type} (Γ : List Nat) (rd : Nat) (πn : ρ → σ → Pt) (πb : γ → σ → Pt) (πr : σ → Pt) (o : Out) (m : Rs (Oc ρ γ × σ)) : Prop := match m with
  | .st => True
  | .ex c d => ∃ ε, o = .ex c d ε ∧ ε.length = Γ.length
  | .ok p => match p.1 with
    | .nx r => ∃ ε, o = .nx ε ∧ Mt Γ (πn r p.2) ε
    | .rt d => ∃ ε, o = .rt rd d ε ∧ Mt Γ (πr p.2) ε
    | .bk b => ∃ ε, o = .bk ε ∧ Mt Γ (πb b p.2) ε
    | .ct b => ∃ ε, o = .ct ε ∧ Mt Γ (πb b p.2) ε
structure XS {ρ γ : Type} (O : Orc) (Γ : List Nat) (rd : Nat) (πn : ρ → σ → Pt) (πb : γ → σ → Pt) (πr : σ → Pt) (π : σ → Pt) (ss : ISs) (m : Mx σ (Oc ρ γ)) : Prop where
  run : ∀ s ε, Mt Γ (π s) ε → RO Γ rd πn πb πr (execs O Γ rd ss ε) (m s)
variable {ρ ρ1 γ : Type} {πn : ρ → σ → Pt} {πb : γ → σ → Pt} {πr π π1 π2 π3 : σ → Pt} {rest a b : ISs} {e : IE} {me ma : Mx σ D} {k k1 k2 i j : Nat} {d : D}
theorem RO.bind {α β : Type} {P : α → β → Prop} {r : R α} {f : α → Sg → Out} {m : Mx σ β} {g : β → Mx σ (Oc ρ γ)} {s : σ} (h : RL Γ π1 P r (m s)) (q : ∀ a b s ε, Mt Γ (π1 s) ε → P a b → RO Γ rd πn πb πr (f a ε) (g b s)) : RO Γ rd πn πb πr (r.out f) (bd m g s) := by
  unfold bd
  unfold RL at h
  split at h
  · trivial
  · rename_i p q'
    obtain ⟨a, ε, rfl, hm, hp⟩ := h
    exact q a p.1 p.2 ε hm hp
  · rename_i c d q'
    obtain ⟨ε, rfl, hl⟩ := h
    exact ⟨ε, rfl, hl⟩
theorem R_out_ofO {α β : Type} {r : R α} {f : α → Sg → Option β} {g : β → Out} : (r.out fun x ε => ofOut (f x ε) g) = r.out fun x ε => ofOut (f x ε) g := rfl
theorem XQ.out {f : Nat × D × Sg → Out} {g : D → Mx σ (Oc ρ γ)} {s : σ} {ε : Sg} (h : XQ O Γ π e me k π1) (hm : Mt Γ (π s) ε) (q : ∀ p d s ε, Mt Γ (π1 s) ε → k ≤ p → RO Γ rd πn πb πr (f (p, d, ε)) (g d s)) : RO Γ rd πn πb πr ((evalE O Γ e ε).out fun x ε1 => ofOut (esc ε1 x) f) (bd me g s) := by
  have e1 : ((evalE O Γ e ε).out fun x ε1 => ofOut (esc ε1 x) f) = ((evalE O Γ e ε).bind fun x ε1 => ofO (esc ε1 x) fun p => R.ok (p.1, p.2.1) p.2.2).out fun p ε => f (p.1, p.2, ε) := by
    cases evalE O Γ e ε with
    | st => rfl
    | ex => rfl
    | ok x ε1 =>
      show ofOut (esc ε1 x) f = (ofO (esc ε1 x) fun p => R.ok (p.1, p.2.1) p.2.2).out _
      cases esc ε1 x <;> rfl
  rw [e1]
  refine RO.bind (h.2 s ε hm) fun p d s ε m hp => ?_
  obtain ⟨rfl, hp2⟩ := hp
  exact q p.1 p.2 s ε m hp2
theorem RO.seq {o : Out} {f : Sg → Out} {πj : ρ1 → σ → Pt} {m : Mx σ (Oc ρ1 γ)} {g : ρ1 → Mx σ (Oc ρ γ)} {s : σ} (h : RO Γ rd πj πb πr o (m s)) (q : ∀ r s ε, Mt Γ (πj r s) ε → RO Γ rd πn πb πr (f ε) (g r s)) : RO Γ rd πn πb πr (o.seq f) (sqO m g s) := by
  unfold sqO bd
  unfold RO at h
  generalize m s = w at h
  cases w with
  | st => trivial
  | ex c d => obtain ⟨ε, rfl, hl⟩ := h; exact ⟨ε, rfl, hl⟩
  | ok p =>
    obtain ⟨p, s'⟩ := p
    cases p with
    | nx r => obtain ⟨ε, rfl, hm⟩ := h; exact q r s' ε hm
    | rt d => obtain ⟨ε, rfl, hm⟩ := h; exact ⟨ε, rfl, hm⟩
    | bk b => obtain ⟨ε, rfl, hm⟩ := h; exact ⟨ε, rfl, hm⟩
    | ct b => obtain ⟨ε, rfl, hm⟩ := h; exact ⟨ε, rfl, hm⟩
theorem Mt.sub {p q : Pt} {ε : Sg} (h : Mt Γ p ε) (s : Sub p q) (hl : q.length ≤ Γ.length) : Mt Γ q ε := ⟨h.1, h.2.sub s h.2.len (by rw [h.1]; exact hl)⟩
theorem oM_some {α : Type} {a : α} : (oM (some a) : Mx σ α) = pv a := rfl
theorem pv_bd {α β : Type} {a : α} {f : α → Mx σ β} : bd (pv a) f = f a := rfl
/-! the rules -/
theorem XS.nil {r : ρ} (h : ∀ s, Sub (π s) (πn r s) ∧ (πn r s).length ≤ Γ.length) : XS O Γ rd πn πb πr π .nil (nxM r) := .mk fun s ε m => by
  rw [execs]
  exact ⟨ε, rfl, m.sub (h s).1 (h s).2⟩
theorem XS.pass {m : Mx σ (Oc ρ γ)} (h : XS O Γ rd πn πb πr π rest m) : XS O Γ rd πn πb πr π (.cons .pass rest) m := .mk fun s ε q => by
  rw [execs, exec]
  exact h.run s ε q
theorem XS.stuck : XS O Γ rd πn πb πr π (.cons .stuck rest) stM := .mk fun s ε q => trivial
theorem XS.any {ss : ISs} : XS O Γ rd πn πb πr π ss stM := .mk fun s ε q => trivial
theorem XS.brk {r : γ} (h : ∀ s, Sub (π s) (πb r s) ∧ (πb r s).length ≤ Γ.length) : XS O Γ rd πn πb πr π (.cons .brk rest) (bkM r) := .mk fun s ε m => by
  rw [execs, exec]
  exact ⟨ε, rfl, m.sub (h s).1 (h s).2⟩
theorem XS.cnt {r : γ} (h : ∀ s, Sub (π s) (πb r s) ∧ (πb r s).length ≤ Γ.length) : XS O Γ rd πn πb πr π (.cons .cnt rest) (ctM r) := .mk fun s ε m => by
  rw [execs, exec]
  exact ⟨ε, rfl, m.sub (h s).1 (h s).2⟩
theorem seq_out {α : Type} {r : R α} {f : α → Sg → Out} {g : Sg → Out} : (r.out f).seq g = r.out fun a ε => (f a ε).seq g := by cases r <;> rfl
theorem seq_ofOut {α : Type} {o : Option α} {f : α → Out} {g : Sg → Out} : (ofOut o f).seq g = ofOut o fun a => (f a).seq g := by cases o <;> rfl
theorem seq_if {p : Prop} [Decidable p] {a b : Out} {g : Sg → Out} : (if p then a else b).seq g = if p then a.seq g else b.seq g := by split <;> rfl
theorem seq_st {g : Sg → Out} : Out.st.seq g = .st := rfl
theorem XS.ret {n : Nat} (h : XQ O Γ π e me n π1) (hn : rd = n) (hs : ∀ s, Sub (π1 s) (πr s) ∧ (πr s).length ≤ Γ.length) : XS O Γ rd πn πb πr π (.cons (.ret e) rest) (rtM me) := .mk fun s ε m => by
  subst hn
  rw [execs, exec, seq_out]
  simp only [seq_ofOut]
  refine h.out m fun p d s ε m hp => ?_
  show RO Γ rd πn πb πr ((if rd ≤ p then Out.rt rd d ε else .st).seq _) _
  rw [if_pos hp]
  exact ⟨ε, rfl, m.sub (hs s).1 (hs s).2⟩
theorem XS.retn (hs : ∀ s, Sub (π s) (πr s) ∧ (πr s).length ≤ Γ.length) : XS O Γ rd πn πb πr π (.cons .retn rest) (pv (.rt .none)) := .mk fun s ε m => by
  rw [execs, exec]
  exact ⟨ε, rfl, m.sub (hs s).1 (hs s).2⟩
theorem XS.retm {n : Nat} (h : ∀ s, pget (π s) i = .v n d) (hn : rd ≤ n) (hs : ∀ s, Sub (pset (π s) i .any) (πr s) ∧ (πr s).length ≤ Γ.length) : XS O Γ rd πn πb πr π (.cons (.retm i) rest) (rtM (pv d)) := .mk fun s ε m => by
  rw [execs, exec, m.2.get (h s)]
  show RO Γ rd πn πb πr ((if rd ≤ n then Out.rt rd d (ε.set i .un) else .st).seq _) _
  rw [if_pos hn]
  have m2 : Mt Γ (pset (π s) i .any) (ε.set i .un) := ⟨by rw [List.length_set]; exact m.1, m.2.set trivial⟩
  exact ⟨_, rfl, m2.sub (hs s).1 (hs s).2⟩
theorem Mt.set {p : Pt} {ε : Sg} {n : Nat} (m : Mt Γ p ε) : Mt Γ (pset p i (.v n d)) (ε.set i (.v n d)) := ⟨by rw [List.length_set]; exact m.1, m.2.set rfl⟩
theorem XS.asg {r : D → Mx σ (Oc ρ γ)} (h : XQ O Γ π e me k π1) (hg : Γ[i]? = some k) (hk : k < 1000) (hr : ∀ d, XS O Γ rd πn πb πr (fun s => pset (π1 s) i (.v k d)) rest (r d)) : XS O Γ rd πn πb πr π (.cons (.asg i e) rest) (bd me r) := .mk fun s ε m => by
  rw [execs, exec, seq_out]
  simp only [seq_ofOut]
  refine h.out m fun p d s ε m hp => ?_
  show RO Γ rd πn πb πr (ofOut (setSl Γ i p d ε) _) _
  rw [setSl_at hg hk hp m.1]
  exact (hr d).run s _ m.set
theorem XS.pat {m : Mx σ (Oc ρ γ)} {ss : ISs} (hp : ∀ s, π s = π1 s) (h : XS O Γ rd πn πb πr π1 ss m) : XS O Γ rd πn πb πr π ss m := .mk fun s ε q => h.run s ε (by rw [← hp s]; exact q)
theorem XS.tas2 {i1 i2 : Nat} {e1 e2 : IE} {m1 m2 : Mx σ D} {r : D → D → Mx σ (Oc ρ γ)} (h1 : XQ O Γ π e1 m1 k1 π1) (h2 : XQ O Γ π1 e2 m2 k2 π2) (g1 : Γ[i1]? = some k1) (g2 : Γ[i2]? = some k2) (q1 : k1 < 1000) (q2 : k2 < 1000)
    (hr : ∀ a b, XS O Γ rd πn πb πr (fun s => pset (pset (π2 s) i1 (.v k1 a)) i2 (.v k2 b)) rest (r a b)) : XS O Γ rd πn πb πr π (.cons (.tas [i1, i2] (.cons e1 (.cons e2 .nil))) rest) (bd m1 fun a => bd m2 fun b => r a b) := .mk fun s ε m => by
  rw [execs, exec, seq_out]
  simp only [seq_ofOut]
  have ev : ∀ ε, evalM O Γ [i1, i2] (.cons e1 (.cons e2 .nil)) ε = ((evalE O Γ e1 ε).bind fun x ε1 => ofO (esc ε1 x) fun p => ((evalE O Γ e2 p.2.2).bind fun y ε2 => ofO (esc ε2 y) fun q => R.ok [(p.1, p.2.1), (q.1, q.2.1)] q.2.2)) := fun ε => by
    rw [evalM]
    congr 1
    funext x ε1
    congr 1
    funext p
    obtain ⟨p1, p2, p3⟩ := p
    show R.bind (evalM O Γ _ (.cons e2 _) p3) _ = _
    rw [evalM]
    show R.bind (R.bind _ _) _ = _
    cases evalE O Γ e2 p3 with
    | st => rfl
    | ex => rfl
    | ok y ε2 =>
      show R.bind (ofO (esc ε2 y) _) _ = ofO (esc ε2 y) _
      cases esc ε2 y with
      | none => rfl
      | some q =>
        rw [x_ofO, x_ofO]
        obtain ⟨q1, q2, q3⟩ := q
        show R.bind (R.bind (evalM O Γ [] .nil q3) _) _ = _
        rw [evalM]
        rfl
  rw [ev]
  have out_bind : ∀ {α β : Type} (r : R α) (f : α → Sg → R β) (g : β → Sg → Out), (r.bind f).out g = r.out fun a ε => (f a ε).out g := fun r f g => by cases r <;> rfl
  have out_ofO : ∀ {α β : Type} (o : Option α) (f : α → R β) (g : β → Sg → Out), (ofO o f).out g = ofOut o fun a => (f a).out g := fun o f g => by cases o <;> rfl
  simp only [out_bind, out_ofO]
  refine h1.out m fun p x s ε m hp => h2.out m fun q y s ε m hq => ?_
  show RO Γ rd πn πb πr (ofOut (setL Γ [i1, i2] [(p, x), (q, y)] ε) _) _
  have m1 := m.set (i := i1) (n := k1) (d := x)
  have : setL Γ [i1, i2] [(p, x), (q, y)] ε = some ((ε.set i1 (.v k1 x)).set i2 (.v k2 y)) := by
    show (setSl Γ i1 p x ε).bind (fun ε' => (setSl Γ i2 q y ε').bind fun ε'' => setL Γ [] [] ε'') = _
    rw [setSl_at g1 q1 hp m.1]
    show (setSl Γ i2 q y _).bind _ = _
    rw [setSl_at g2 q2 hq m1.1]
    rfl
  rw [this]
  exact (hr x y).run s _ m1.set
theorem XS.tas3 {i1 i2 i3 k3 : Nat} {e1 e2 e3 : IE} {m1 m2 m3 : Mx σ D} {r : D → D → D → Mx σ (Oc ρ γ)} (h1 : XQ O Γ π e1 m1 k1 π1) (h2 : XQ O Γ π1 e2 m2 k2 π2) (h3 : XQ O Γ π2 e3 m3 k3 π3) (g1 : Γ[i1]? = some k1) (g2 : Γ[i2]? = some k2) (g3 : Γ[i3]? = some k3) (q1 : k1 < 1000) (q2 : k2 < 1000) (q3 : k3 < 1000)
    (hr : ∀ a b c, XS O Γ rd πn πb πr (fun s => pset (pset (pset (π3 s) i1 (.v k1 a)) i2 (.v k2 b)) i3 (.v k3 c)) rest (r a b c)) : XS O Γ rd πn πb πr π (.cons (.tas [i1, i2, i3] (.cons e1 (.cons e2 (.cons e3 .nil)))) rest) (bd m1 fun a => bd m2 fun b => bd m3 fun c => r a b c) := .mk fun s ε m => by
  rw [execs, exec, seq_out]
  simp only [seq_ofOut]
  have ev : ∀ ε, evalM O Γ [i1, i2, i3] (.cons e1 (.cons e2 (.cons e3 .nil))) ε = ((evalE O Γ e1 ε).bind fun x ε1 => ofO (esc ε1 x) fun p => ((evalE O Γ e2 p.2.2).bind fun y ε2 => ofO (esc ε2 y) fun q => ((evalE O Γ e3 q.2.2).bind fun z ε3 => ofO (esc ε3 z) fun u => R.ok [(p.1, p.2.1), (q.1, q.2.1), (u.1, u.2.1)] u.2.2))) := fun ε => by
    rw [evalM]
    congr 1
    funext x ε1
    congr 1
    funext p
    obtain ⟨p1, p2, p3⟩ := p
    show R.bind (evalM O Γ _ (.cons e2 _) p3) _ = _
    rw [evalM]
    show R.bind (R.bind _ _) _ = _
    cases evalE O Γ e2 p3 with
    | st => rfl
    | ex => rfl
    | ok y ε2 =>
      show R.bind (ofO (esc ε2 y) _) _ = ofO (esc ε2 y) _
      cases esc ε2 y with
      | none => rfl
      | some q =>
        show R.bind (R.bind (evalM O Γ [i3] (.cons e3 .nil) q.2.2) _) _ = ((evalE O Γ e3 q.2.2).bind _)
        rw [evalM]
        cases evalE O Γ e3 q.2.2 with
        | st => rfl
        | ex => rfl
        | ok z ε3 =>
          show R.bind (R.bind (ofO (esc ε3 z) _) _) _ = ofO (esc ε3 z) _
          cases esc ε3 z with
          | none => rfl
          | some u =>
            rw [x_ofO, x_ofO]
            obtain ⟨u1, u2, u3⟩ := u
            show R.bind (R.bind (R.bind (evalM O Γ [] .nil u3) _) _) _ = _
            rw [evalM]
            rfl
  rw [ev]
  have out_bind : ∀ {α β : Type} (r : R α) (f : α → Sg → R β) (g : β → Sg → Out), (r.bind f).out g = r.out fun a ε => (f a ε).out g := fun r f g => by cases r <;> rfl
  have out_ofO : ∀ {α β : Type} (o : Option α) (f : α → R β) (g : β → Sg → Out), (ofO o f).out g = ofOut o fun a => (f a).out g := fun o f g => by cases o <;> rfl
  simp only [out_bind, out_ofO]
  refine h1.out m fun p x s ε m hp => h2.out m fun q y s ε m hq => h3.out m fun u z s ε m hu => ?_
  show RO Γ rd πn πb πr (ofOut (setL Γ [i1, i2, i3] [(p, x), (q, y), (u, z)] ε) _) _
  have m1 := m.set (i := i1) (n := k1) (d := x)
  have m2 := m1.set (i := i2) (n := k2) (d := y)
  have : setL Γ [i1, i2, i3] [(p, x), (q, y), (u, z)] ε = some (((ε.set i1 (.v k1 x)).set i2 (.v k2 y)).set i3 (.v k3 z)) := by
    show (setSl Γ i1 p x ε).bind (fun ε' => (setSl Γ i2 q y ε').bind fun ε'' => (setSl Γ i3 u z ε'').bind fun ε'' => setL Γ [] [] ε'') = _
    rw [setSl_at g1 q1 hp m.1]
    show (setSl Γ i2 q y _).bind _ = _
    rw [setSl_at g2 q2 hq m1.1]
    show (setSl Γ i3 u z _).bind _ = _
    rw [setSl_at g3 q3 hu m2.1]
    rfl
  rw [this]
  exact (hr x y z).run s _ m2.set
theorem XS.unp {ts : TGs} {r : D → Mx σ (Oc ρ γ)} (h : XQ O Γ π e me 0 π1) (hr : ∀ d, TB Γ (.tup ts) π1 d (r d) fun π2 m => XS O Γ rd πn πb πr π2 rest m) : XS O Γ rd πn πb πr π (.cons (.unp ts e) rest) (bd me r) := .mk fun s ε m => by
  rw [execs, exec, seq_out]
  simp only [seq_ofOut]
  refine h.out m fun p d s ε m hp => ?_
  rcases (hr d).run s ε m with q | ⟨ε1, π2, m2, e1, hm1, q1, j⟩
  · rw [q]; trivial
  · rw [← q1]
    have hd : ∃ ds, d = .tuple ds ∨ d = .list ds := by cases d <;> first | exact ⟨_, .inl rfl⟩ | exact ⟨_, .inr rfl⟩ | (simp [setTG] at e1; done)
    obtain ⟨ds, rfl | rfl⟩ := hd
    · rw [setTG] at e1
      show RO Γ rd πn πb πr ((ofOut (setTGs Γ ts ds ε) _).seq _) _
      rw [e1]
      exact j.run s ε1 hm1
    · rw [setTG] at e1
      show RO Γ rd πn πb πr ((ofOut (setTGs Γ ts ds ε) _).seq _) _
      rw [e1]
      exact j.run s ε1 hm1
theorem XS.app {l : D} {r : D → Mx σ (Oc ρ γ)} (hl : ∀ s, pget (π s) i = .v 1 l) (h : XQ O Γ π e me 0 π1) (hl1 : ∀ s, pget (π1 s) i = .v 1 l) (hr : ∀ d, XS O Γ rd πn πb πr (fun s => pset (π1 s) i (.v 1 d)) rest (r d)) : XS O Γ rd πn πb πr π (.cons (.app i e) rest) (appM l me r) := .mk fun s ε m => by
  unfold appM
  rw [execs, exec, m.2.get (hl s)]
  cases l <;> first | trivial | skip
  rename_i xs
  show RO Γ rd πn πb πr (((evalE O Γ e ε).out _).seq _) (bd me _ s)
  rw [seq_out]
  simp only [seq_ofOut]
  refine h.out m fun p d s ε m hp => ?_
  show RO Γ rd πn πb πr (ofOut (sval ε i) _) _
  rw [m.2.get (hl1 s)]
  show RO Γ rd πn πb πr ((if 0 ≤ p ∧ xs.length < sizeLine then Out.nx _ else .st).seq _) ((if xs.length < sizeLine then r (.list (xs ++ [d])) else stM) s)
  by_cases q : xs.length < sizeLine
  · rw [if_pos ⟨Nat.zero_le _, q⟩, if_pos q]
    exact (hr _).run s _ m.set
  · rw [if_neg q]; trivial
theorem XS.appPop {l q : D} {r : D → D → Mx σ (Oc ρ γ)} (hl : ∀ s, pget (π s) i = .v 1 l) (hq : ∀ s, pget (π s) j = .v 1 q) (hij : i ≠ j) (h : XE O Γ π e me 0 k π1) (hl1 : ∀ s, pget (π1 s) i = .v 1 l) (hq1 : ∀ s, pget (π1 s) j = .v 1 q) (hr : ∀ d x, XS O Γ rd πn πb πr (fun s => pset (pset (π1 s) j (.v 1 x)) i (.v 1 d)) rest (r d x)) : XS O Γ rd πn πb πr π (.cons (.app i (.popAt j e)) rest) (Kr.appPop l q me r) := .mk fun s ε m => by
  unfold Kr.appPop
  rw [execs, exec, m.2.get (hl s)]
  cases l <;> first | trivial | skip
  cases q <;> first | trivial | skip
  rename_i xs ys
  show RO Γ rd πn πb πr (((evalE O Γ (.popAt j e) ε).out _).seq _) (bd me _ s)
  rw [evalE, m.2.get (hq s)]
  show RO Γ rd πn πb πr ((((evalE O Γ e ε).bind _).out _).seq _) (bd me _ s)
  have out_bind : ∀ {α β : Type} (r : R α) (f : α → Sg → R β) (g : β → Sg → Out), (r.bind f).out g = r.out fun a ε => (f a ε).out g := fun r f g => by cases r <;> rfl
  rw [out_bind, seq_out]
  refine RO.bind (h.2 s ε m) fun x d s ε m hx => ?_
  rw [hx.rs m]
  cases d <;> first | trivial | skip
  rename_i v
  show RO Γ rd πn πb πr ((R.out (ofO (sval ε j) _) _).seq _) (bd (oM (ixN ys.length v)) _ s)
  rw [m.2.get (hq1 s)]
  show RO Γ rd πn πb πr ((R.out (ofO (ixN ys.length v) _) _).seq _) (bd (oM (ixN ys.length v)) _ s)
  cases ixN ys.length v with
  | none => trivial
  | some jj =>
    rw [x_ofO, oM_some, pv_bd]
    cases ys[jj]? with
    | none => trivial
    | some g =>
      rw [x_ofO, oM_some, pv_bd]
      by_cases c1 : ys.length ≤ sizeLine
      · rw [if_pos c1]
        have m1 := m.set (i := j) (n := 1) (d := .list (ys.eraseIdx jj))
        have e1 : sval (ε.set j (.v 1 (.list (ys.eraseIdx jj)))) i = some (1, .list xs) := by
          have := m1.2.get (i := i) (n := 1) (d := .list xs) (by rw [pget_ne hij]; exact hl1 s)
          exact this
        show RO Γ rd πn πb πr (Out.seq (ofOut (sval (ε.set j (.v 1 (.list (ys.eraseIdx jj)))) i) _) _) _
        rw [e1]
        show RO Γ rd πn πb πr (Out.seq (if 0 ≤ 0 ∧ xs.length < sizeLine then _ else _) _) _
        by_cases c2 : xs.length < sizeLine
        · rw [if_pos ⟨Nat.zero_le _, c2⟩, if_pos ⟨c1, c2⟩]
          exact (hr _ _).run s _ m1.set
        · rw [if_neg (fun h => c2 h.2), if_neg (fun h => c2 h.2)]
          trivial
      · rw [if_neg c1, if_neg (fun h => c1 h.1)]
        trivial
theorem XS.setix {l : D} {ai : IE} {mi : Mx σ D} {r : D → Mx σ (Oc ρ γ)} (h : XQ O Γ π e me 0 π1) (hl1 : ∀ s, pget (π1 s) i = .v 1 l) (ha : XE O Γ π1 ai mi 0 k π2) (hl2 : ∀ s, pget (π2 s) i = .v 1 l) (hr : ∀ d, XS O Γ rd πn πb πr (fun s => pset (π2 s) i (.v 1 d)) rest (r d)) : XS O Γ rd πn πb πr π (.cons (.setix i ai e) rest) (setM me mi l r) := .mk fun s ε m => by
  rw [execs, exec, seq_out]
  simp only [seq_ofOut]
  unfold setM
  refine h.out m fun p d s ε m hp => ?_
  show RO Γ rd πn πb πr (ofOut (sval ε i) _) _
  rw [m.2.get (hl1 s)]
  show RO Γ rd πn πb πr (((evalE O Γ ai ε).out _).seq _) _
  rw [seq_out]
  refine RO.bind (ha.2 s ε m) fun x v s ε m hx => ?_
  rw [hx.rs m]
  cases v <;> first | trivial | skip
  rename_i v
  show RO Γ rd πn πb πr ((ofOut (sval ε i) _).seq _) _
  rw [m.2.get (hl2 s)]
  cases l <;> first | trivial | skip
  rename_i xs
  show RO Γ rd πn πb πr ((ofOut (ixN xs.length v) _).seq _) (bd (oM (ixN xs.length v)) _ s)
  cases ixN xs.length v with
  | none => trivial
  | some jj =>
    rw [x_ofOut, oM_some, pv_bd, if_pos (Nat.zero_le _)]
    exact (hr _).run s _ m.set
theorem XS.asgPop {i : Nat} {q : D} {r : D → D → Mx σ (Oc ρ γ)} (hq : ∀ s, pget (π s) j = .v 1 q) (hg : Γ[i]? = some 0) (hr : ∀ d x, XS O Γ rd πn πb πr (fun s => pset (pset (π s) j (.v 1 x)) i (.v 0 d)) rest (r d x)) : XS O Γ rd πn πb πr π (.cons (.asg i (.pop j)) rest) (popLast q r) := .mk fun s ε m => by
  rw [execs, exec, evalE, m.2.get (hq s)]
  cases q <;> first | trivial | skip
  rename_i ys
  unfold popLast
  rw [x_ofO]
  show RO Γ rd πn πb πr ((R.out (ofO ys.getLast? _) _).seq _) (bd (oM ys.getLast?) _ s)
  cases ys.getLast? with
  | none => trivial
  | some g =>
    rw [x_ofO, oM_some, pv_bd]
    have m1 := m.set (i := j) (n := 1) (d := .list ys.dropLast)
    show RO Γ rd πn πb πr ((ofOut (setSl Γ i 0 g _) _).seq _) _
    rw [setSl_at hg (by omega) (Nat.le_refl _) m1.1]
    exact (hr _ _).run s _ m1.set
theorem XS.expr {m : Mx σ (Oc ρ γ)} (h : XE O Γ π e me 0 k π1) (hr : XS O Γ rd πn πb πr π1 rest m) : XS O Γ rd πn πb πr π (.cons (.expr e) rest) (bd me fun _ => m) := .mk fun s ε q => by
  rw [execs, exec, seq_out]
  exact RO.bind (h.2 s ε q) fun x d s ε q _ => hr.run s ε q
theorem XS.raise {c : String} (h : XQ O Γ π e me 0 π1) : XS O Γ rd πn πb πr π (.cons (.raise c e) rest) (bd me fun d => exM c d) := .mk fun s ε m => by
  rw [execs, exec, seq_out]
  simp only [seq_ofOut]
  exact h.out m fun p d s ε m hp => ⟨ε, rfl, m.1⟩
theorem XS.ifs {c : IE} {mc : Mx σ Bool} {A B : Mx σ (Oc ρ γ)} (h : XT O Γ π c mc π1) (ha : XS O Γ rd πn πb πr π1 (appI a rest) A) (hb : XS O Γ rd πn πb πr π1 (appI b rest) B) : XS O Γ rd πn πb πr π (.cons (.ifs c a b) rest) (iteM mc A B) := .mk fun s ε m => by
  rw [execs, exec, seq_out]
  refine RO.bind (h.2 s ε m) fun t t' s ε m q => ?_
  subst q
  cases t with
  | true =>
    show RO Γ rd πn πb πr ((execs O Γ rd a ε).seq _) (A s)
    rw [← execs_app]
    exact ha.run s ε m
  | false =>
    show RO Γ rd πn πb πr ((execs O Γ rd b ε).seq _) (B s)
    rw [← execs_app]
    exact hb.run s ε m
theorem XS.ifj {c : IE} {mc : Mx σ Bool} {πj : ρ1 → σ → Pt} {A B : Mx σ (Oc ρ1 γ)} {R : ρ1 → Mx σ (Oc ρ γ)} (h : XT O Γ π c mc π1) (ha : XS O Γ rd πj πb πr π1 a A) (hb : XS O Γ rd πj πb πr π1 b B) (hr : ∀ r, XS O Γ rd πn πb πr (πj r) rest (R r)) : XS O Γ rd πn πb πr π (.cons (.ifs c a b) rest) (sqO (iteM mc A B) R) := .mk fun s ε m => by
  rw [execs, exec]
  refine RO.seq (πj := πj) ?_ fun r s ε m => (hr r).run s ε m
  refine RO.bind (h.2 s ε m) fun t t' s ε m q => ?_
  subst q
  cases t with
  | true => exact ha.run s ε m
  | false => exact hb.run s ε m
theorem for_ro {πj : ρ1 → σ → Pt} {f : D → Sg → Out} {g : D → ρ1 → Mx σ (Oc ρ1 ρ1)} (h : ∀ d r s ε, Mt Γ (πj r s) ε → RO Γ rd πj πj πr (f d ε) (g d r s)) : ∀ (ds : List D) (r : ρ1) (s : σ) (ε : Sg), Mt Γ (πj r s) ε → RO Γ rd πj πb πr (forL f ds ε) (forG g ds r s)
  | [], r, s, ε, m => ⟨ε, rfl, m⟩
  | d :: ds, r, s, ε, m => by
    have q := h d r s ε m
    rw [forL, forG]
    unfold bd
    unfold RO at q
    generalize g d r s = w at q
    cases w with
    | st => trivial
    | ex c x => obtain ⟨ε', e1, hl⟩ := q; rw [e1]; exact ⟨ε', rfl, hl⟩
    | ok p =>
      obtain ⟨p, s'⟩ := p
      cases p with
      | nx r' => obtain ⟨ε', e1, hm⟩ := q; rw [e1]; exact for_ro h ds r' s' ε' hm
      | ct r' => obtain ⟨ε', e1, hm⟩ := q; rw [e1]; exact for_ro h ds r' s' ε' hm
      | bk r' => obtain ⟨ε', e1, hm⟩ := q; rw [e1]; exact ⟨ε', rfl, hm⟩
      | rt x => obtain ⟨ε', e1, hm⟩ := q; rw [e1]; exact ⟨ε', rfl, hm⟩
theorem XS.for_ {t : TG} {it : II} {mi : Mx σ (List D)} {πj : ρ1 → σ → Pt} {r0 : ρ1} {f : D → ρ1 → Mx σ (Oc ρ1 ρ1)} {R : ρ1 → Mx σ (Oc ρ γ)} (hI : XI O Γ π it mi π1) (h0 : ∀ s, Sub (π1 s) (πj r0 s) ∧ (πj r0 s).length ≤ Γ.length) (hB : ∀ d r, TB Γ t (πj r) d (f d r) fun π2 m => XS O Γ rd πj πj πr π2 b m) (hr : ∀ r, XS O Γ rd πn πb πr (πj r) rest (R r)) : XS O Γ rd πn πb πr π (.cons (.for_ t it b) rest) (sqO (forM mi r0 f) R) := .mk fun s ε m => by
  rw [execs, exec]
  refine RO.seq (πj := πj) ?_ fun r s ε m => (hr r).run s ε m
  refine RO.bind (hI.2 s ε m) fun ds ds' s ε m q => ?_
  subst q
  refine for_ro (fun d r s ε m => ?_) ds r0 s ε (m.sub (h0 s).1 (h0 s).2)
  rcases (hB d r).run s ε m with q | ⟨ε1, π2, m2, e1, hm1, q1, j⟩
  · rw [q]; trivial
  · rw [← q1, e1]
    exact j.run s ε1 hm1
theorem whl_ro {πj : ρ1 → σ → Pt} {c : Sg → R Bool} {f : Sg → Out} {mc : ρ1 → Mx σ Bool} {g : ρ1 → Mx σ (Oc ρ1 ρ1)} (hc : ∀ r s ε, Mt Γ (πj r s) ε → RL Γ (πj r) (fun a b => a = b) (c ε) (mc r s)) (h : ∀ r s ε, Mt Γ (πj r s) ε → RO Γ rd πj πj πr (f ε) (g r s)) : ∀ (n : Nat) (r : ρ1) (s : σ) (ε : Sg), Mt Γ (πj r s) ε → RO Γ rd πj πb πr (whlL c f n ε) (whlG mc g n r s)
  | 0, r, s, ε, m => trivial
  | n + 1, r, s, ε, m => by
    rw [whlL, whlG]
    refine RO.bind (hc r s ε m) fun t t' s ε m q => ?_
    subst q
    cases t with
    | false => exact ⟨ε, rfl, m⟩
    | true =>
      have q := h r s ε m
      rw [if_pos rfl, if_pos rfl]
      unfold bd
      unfold RO at q
      generalize g r s = w at q
      cases w with
      | st => trivial
      | ex c x => obtain ⟨ε', e1, hl⟩ := q; rw [e1]; exact ⟨ε', rfl, hl⟩
      | ok p =>
        obtain ⟨p, s'⟩ := p
        cases p with
        | nx r' => obtain ⟨ε', e1, hm⟩ := q; rw [e1]; exact whl_ro hc h n r' s' ε' hm
        | ct r' => obtain ⟨ε', e1, hm⟩ := q; rw [e1]; exact whl_ro hc h n r' s' ε' hm
        | bk r' => obtain ⟨ε', e1, hm⟩ := q; rw [e1]; exact ⟨ε', rfl, hm⟩
        | rt x => obtain ⟨ε', e1, hm⟩ := q; rw [e1]; exact ⟨ε', rfl, hm⟩
theorem XS.whl {c : IE} {n : Nat} {mc : ρ1 → Mx σ Bool} {πj : ρ1 → σ → Pt} {r0 : ρ1} {f : ρ1 → Mx σ (Oc ρ1 ρ1)} {R : ρ1 → Mx σ (Oc ρ γ)} (h0 : ∀ s, Sub (π s) (πj r0 s) ∧ (πj r0 s).length ≤ Γ.length) (hc : ∀ r, XT O Γ (πj r) c (mc r) (πj r)) (hB : ∀ r, XS O Γ rd πj πj πr (πj r) b (f r)) (hr : ∀ r, XS O Γ rd πn πb πr (πj r) rest (R r)) : XS O Γ rd πn πb πr π (.cons (.whl n c b) rest) (sqO (whlG mc f n r0) R) := .mk fun s ε m => by
  rw [execs, exec]
  refine RO.seq (πj := πj) ?_ fun r s ε m => (hr r).run s ε m
  exact whl_ro (fun r s ε m => (hc r).2 s ε m) (fun r s ε m => (hB r).run s ε m) n r0 s ε (m.sub (h0 s).1 (h0 s).2)
end
/-! defs -/
theorem ioEnd_sh : ∀ {ms : List PM} {ε : Sg}, allSh ms = true → ms.length ≤ ε.length → ioEnd ms ε = some []
  | [], _, _, _ => by rw [ioEnd]
  | .sh :: ms, [], _, h => by simp at h
  | .sh :: ms, s :: ε, h, hl => by
    rw [ioEnd]
    · exact ioEnd_sh (ms := ms) h (by simpa using hl)
    all_goals simp
  | .own _ :: _, _, h, _ => by cases h
  | .io _ :: _, _, h, _ => by cases h
theorem sh_fn {T : Tb} {f : String} {fd : Fd} {k : Nat} {ds : List D} {π : Unit → Pt} {m : Mx Unit (Oc Unit Empty)} (hT : T f = some fd) (hl : fd.pm.length = ds.length ∧ ds.length ≤ fd.gam.length) (ha : allSh fd.pm = true) (h0 : ∀ s, startP fd.pm ds fd.gam.length = π s)
    (h : XS (ρ := Unit) (γ := Empty) (orc T k) fd.gam fd.rd (fun _ _ => []) (fun _ _ => []) (fun _ => []) π fd.body m) : Sh fd.rd (callK T (k + 1) f ds) (runM m) := by
  rw [callK_at hT]
  have q := h.run () (startS fd.pm ds fd.gam.length) ⟨startS_len _ _ _ hl.1 hl.2, by rw [← h0]; exact MtL.start _ _ _⟩
  have hp : fd.pm.length ≤ fd.gam.length := by omega
  unfold runF
  rw [if_pos hl]
  unfold runM
  unfold RO at q
  generalize m () = w at q
  cases w with
  | st => trivial
  | ex c d =>
    obtain ⟨ε, e, hε⟩ := q
    rw [e]
    show (ioEnd fd.pm ε).map _ = _
    rw [ioEnd_sh ha (by omega)]; rfl
  | ok p =>
    obtain ⟨p, s⟩ := p
    cases p with
    | nx r =>
      obtain ⟨ε, e, hε⟩ := q
      rw [e]
      show (ioEnd fd.pm ε).map _ = _
      rw [ioEnd_sh ha (by have := hε.1; omega)]; rfl
    | rt d =>
      obtain ⟨ε, e, hε⟩ := q
      rw [e]
      show (ioEnd fd.pm ε).map _ = _
      rw [ioEnd_sh ha (by have := hε.1; omega)]; rfl
    | bk b => exact b.elim
    | ct b => exact b.elim
theorem shG_fn {T : Tb} {f : String} {fd : Fd} {k : Nat} {ms : List PM} {g : D} {ds : List D} {π : D → Pt} {m : Mx D (Oc Unit Empty)} (hT : T f = some fd) (hp : fd.pm = .io 1 :: ms) (hl : ms.length = ds.length ∧ ds.length + 1 ≤ fd.gam.length) (ha : allSh ms = true) (h0 : ∀ s, startP fd.pm (s :: ds) fd.gam.length = π s)
    (h : XS (ρ := Unit) (γ := Empty) (orc T k) fd.gam fd.rd (fun _ s => [.v 1 s]) (fun _ _ => []) (fun s => [.v 1 s]) π fd.body m) : ShG fd.rd (callK T (k + 1) f (g :: ds)) (runG m g) := by
  rw [callK_at hT]
  have hl' : fd.pm.length = (g :: ds).length ∧ (g :: ds).length ≤ fd.gam.length := ⟨by rw [hp]; simp [hl.1], by simpa using hl.2⟩
  have q := h.run g (startS fd.pm (g :: ds) fd.gam.length) ⟨startS_len _ _ _ hl'.1 hl'.2, by rw [← h0]; exact MtL.start _ _ _⟩
  have ie : ∀ {ε : Sg} {s : D}, Mt fd.gam [.v 1 s] ε → ioEnd fd.pm ε = some [s] := fun {ε s} hm => by
    have h1 := hm.1
    have h2 := hm.2
    cases ε with
    | nil => exact h2.elim
    | cons x ε =>
      have h3 : x = .v 1 s := h2.1
      subst h3
      rw [hp]
      show (if 1 = 1 then (ioEnd ms ε).map (s :: ·) else none) = _
      rw [if_pos rfl, ioEnd_sh ha (by simp at h1; omega)]; rfl
  unfold runF
  rw [if_pos hl']
  unfold runG
  unfold RO at q
  generalize m g = w at q
  cases w with
  | st => trivial
  | ex c d => trivial
  | ok p =>
    obtain ⟨p, s⟩ := p
    cases p with
    | nx r =>
      obtain ⟨ε, e, hε⟩ := q
      rw [e]
      show (ioEnd fd.pm ε).map _ = _
      rw [ie hε]; rfl
    | rt d =>
      obtain ⟨ε, e, hε⟩ := q
      rw [e]
      show (ioEnd fd.pm ε).map _ = _
      rw [ie hε]; rfl
    | bk b => exact b.elim
    | ct b => exact b.elim
end Kr

set_option Elab.async false
set_option linter.all false
set_option maxRecDepth 100000
set_option maxHeartbeats 1000000
namespace Kr
open PySem PySem.Spec PyProof.Rows L2
theorem Sub.nil {p : Pt} : Sub p [] := by cases p <;> trivial
theorem Sub.any {x : Pe} {p q : Pt} (h : Sub p q) : Sub (x :: p) (.any :: q) := h
theorem Sub.v {n : Nat} {d : D} {p q : Pt} (h : Sub p q) : Sub (.v n d :: p) (.v n d :: q) := ⟨rfl, h⟩
theorem zk : 0 < 1000 := by decide
theorem ok1 : 1 < 1000 := by decide
/-! the state's own list -/
def ixS (m : Mx D D) : Mx D D := bd m fun y s => match y with | .int k => oM (getI s k) s | _ => .st
def setS {α : Type} (e a : Mx D D) (k : Mx D α) : Mx D α := bd e fun d => bd a fun x s => match x, s with
  | .int i, .list xs => (match ixN xs.length i with | some j => k (.list (xs.set j d)) | none => .st)
  | _, _ => .st
section
variable {Γ : List Nat} {O : Orc} {π π1 π2 : D → Pt} {n k : Nat} {e a : IE} {me ma : Mx D D} {i : Nat}
theorem XE.k1 {σ : Type} {π π1 : σ → Pt} {me : Mx σ D} (h : XE O Γ π e me n 0 π1) : XE O Γ π e me n 1 π1 := ⟨h.1, fun s ε m => by
  have := h.2 s ε m
  unfold RL at this ⊢
  split at this
  · trivial
  · obtain ⟨x, ε', e1, e2, e3⟩ := this
    refine ⟨x, ε', e1, e2, ?_⟩
    rcases e3 with e3 | ⟨h0, i, e, hp⟩
    · exact .inl e3
    · refine .inr ⟨h0, i, e, fun s => ?_⟩
      obtain ⟨j, hj, hj1, hd⟩ := hp s
      exact ⟨j, by omega, hj1, hd⟩
  · exact this⟩
theorem XE.ixS (hi : ∀ s, pget (π s) i = .v 1 s) (h : XE O Γ π a ma 0 k π) : XE O Γ π (.ix (.var i) a) (Kr.ixS ma) 0 0 π := ⟨fun _ => .refl _, fun s ε m => by
  rw [evalE, evalE, m.2.get (hi s)]
  show RL Γ π _ ((evalE O Γ a ε).bind _) _
  refine h.bind m fun y d s ε m hy => ?_
  rw [hy.rs m]
  cases d <;> first | trivial | skip
  rename_i v
  show RL Γ π _ (ofO ((sval ε i).map _) _) (oM (getI s v) s)
  rw [m.2.get (hi s)]
  show RL Γ π _ (ofO (getI s v) _) (oM (getI s v) s)
  cases q : getI s v with
  | none => trivial
  | some g =>
    show RL Γ π _ (if scalD g = true then _ else ofO ((sval ε i).bind _) _) (pv g s)
    by_cases q : scalD g = true
    · rw [if_pos q]; exact RL.ok m (.dat (Nat.le_refl _))
    · rw [if_neg q, m.2.get (hi s)]; exact RL.ok m (.dat (Nat.le_refl _))⟩
theorem XS.setS {ρ γ : Type} {rd : Nat} {πn : ρ → D → Pt} {πb : γ → D → Pt} {πr : D → Pt} {rest : ISs} {r : Mx D (Oc ρ γ)} (hi : ∀ s, pget (π s) i = .v 1 s) (hp : ∀ s s', pset (π s) i (.v 1 s') = π s') (h : XQ O Γ π e me 0 π) (ha : XE O Γ π a ma 0 k π) (hr : XS O Γ rd πn πb πr π rest r) : XS O Γ rd πn πb πr π (.cons (.setix i a e) rest) (Kr.setS me ma r) := .mk fun s ε m => by
  rw [execs, exec, seq_out]
  simp only [seq_ofOut]
  unfold Kr.setS
  refine h.out m fun p d s ε m _ => ?_
  show RO Γ rd πn πb πr (ofOut (sval ε i) _) _
  rw [m.2.get (hi s)]
  show RO Γ rd πn πb πr (((evalE O Γ a ε).out _).seq _) _
  rw [seq_out]
  refine RO.bind (ha.2 s ε m) fun x v s ε m hx => ?_
  rw [hx.rs m]
  cases v <;> first | trivial | skip
  rename_i v
  show RO Γ rd πn πb πr ((ofOut (sval ε i) _).seq _) _
  rw [m.2.get (hi s)]
  cases s <;> first | trivial | skip
  rename_i xs
  show RO Γ rd πn πb πr ((ofOut (ixN xs.length v) _).seq _) (match ixN xs.length v with | some j => r (.list (xs.set j d)) | none => .st)
  cases ixN xs.length v with
  | none => trivial
  | some jj =>
    rw [x_ofOut, if_pos (Nat.zero_le _)]
    refine hr.run _ _ ?_
    rw [← hp (.list xs)]
    exact m.set
end
end Kr

set_option Elab.async false
set_option linter.all false
set_option maxRecDepth 100000
set_option maxHeartbeats 1000000
namespace Kr
open PySem PySem.Spec PyProof.Rows L2
/-! a generator that a def makes for itself -/
def stS {α : Type} (e : Mx D D) (k : Mx D α) : Mx D α := bd e fun d _ => k d
@[irreducible] def runS (m : Mx D (Oc Unit Empty)) : Rs D := match m .none with
  | .ok (.rt d, _) => .ok d
  | .ok (.nx _, _) => .ok .none
  | .ex c d => .ex c d
  | _ => .st
theorem XS.stS {Γ : List Nat} {O : Orc} {π π1 : D → Pt} {e : IE} {me : Mx D D} {i : Nat} {ρ γ : Type} {rd : Nat} {πn : ρ → D → Pt} {πb : γ → D → Pt} {πr : D → Pt} {rest : ISs} {r : Mx D (Oc ρ γ)} (h : XQ O Γ π e me 1 π1) (hg : Γ[i]? = some 1) (hp : ∀ s s', pset (π1 s) i (.v 1 s') = pset (π1 s') i (.v 1 s')) (hr : XS O Γ rd πn πb πr (fun s => pset (π1 s) i (.v 1 s)) rest r) : XS O Γ rd πn πb πr π (.cons (.asg i e) rest) (Kr.stS me r) := .mk fun s ε m => by
  rw [execs, exec, seq_out]
  simp only [seq_ofOut]
  unfold Kr.stS
  refine h.out m fun p d s ε m hp' => ?_
  show RO Γ rd πn πb πr (ofOut (setSl Γ i p d ε) _) _
  rw [setSl_at hg (by omega) hp' m.1]
  refine hr.run d _ ?_
  have := m.set (i := i) (n := 1) (d := d)
  rw [hp s d] at this
  exact this
theorem shS_fn {T : Tb} {f : String} {fd : Fd} {k : Nat} {ds : List D} {π : D → Pt} {m : Mx D (Oc Unit Empty)} (hT : T f = some fd) (hl : fd.pm.length = ds.length ∧ ds.length ≤ fd.gam.length) (ha : allSh fd.pm = true) (h0 : ∀ s, startP fd.pm ds fd.gam.length = π s)
    (h : XS (ρ := Unit) (γ := Empty) (orc T k) fd.gam fd.rd (fun _ _ => []) (fun _ _ => []) (fun _ => []) π fd.body m) : Sh fd.rd (callK T (k + 1) f ds) (runS m) := by
  rw [callK_at hT]
  have q := h.run .none (startS fd.pm ds fd.gam.length) ⟨startS_len _ _ _ hl.1 hl.2, by rw [← h0]; exact MtL.start _ _ _⟩
  have hp : fd.pm.length ≤ fd.gam.length := by omega
  unfold runF
  rw [if_pos hl]
  unfold runS
  unfold RO at q
  generalize m .none = w at q
  cases w with
  | st => trivial
  | ex c d =>
    obtain ⟨ε, e, hε⟩ := q
    rw [e]
    show (ioEnd fd.pm ε).map _ = _
    rw [ioEnd_sh ha (by omega)]; rfl
  | ok p =>
    obtain ⟨p, s⟩ := p
    cases p with
    | nx r =>
      obtain ⟨ε, e, hε⟩ := q
      rw [e]
      show (ioEnd fd.pm ε).map _ = _
      rw [ioEnd_sh ha (by have := hε.1; omega)]; rfl
    | rt d =>
      obtain ⟨ε, e, hε⟩ := q
      rw [e]
      show (ioEnd fd.pm ε).map _ = _
      rw [ioEnd_sh ha (by have := hε.1; omega)]; rfl
    | bk b => exact b.elim
    | ct b => exact b.elim
theorem Tp.runS {m : Mx D (Oc Unit Empty)} {d : D} (h : ∃ s, m .none = .ok (.rt d, s)) : runS m = .ok d := by
  obtain ⟨s, e⟩ := h
  unfold Kr.runS
  rw [e]
end Kr

set_option Elab.async false
set_option linter.all false
set_option maxRecDepth 100000
set_option maxHeartbeats 1000000
namespace Kr
open PySem PySem.Spec PyProof.Rows L2
/-! ### reckoning with the plain functions -/
section
variable {σ α β : Type} {a b c d e x y : D} {m : Mx σ D} {n : Nat} {i j k : Int} {l xs ys ds : List D}
@[simp] theorem bd_pv_ {v : α} {f : α → Mx σ β} : bd (pv v) f = f v := rfl
@[simp] theorem bd_st {f : α → Mx σ β} : bd (stM : Mx σ α) f = stM := rfl
@[simp] theorem bd_id {m : Mx σ α} : bd m pv = m := bd_pv m
@[simp] theorem bd_bd {γ : Type} {m : Mx σ α} {f : α → Mx σ β} {g : β → Mx σ γ} : bd (bd m f) g = bd m fun v => bd (f v) g := by
  funext s
  unfold bd
  cases m s <;> rfl
theorem bd_if {p : Prop} [Decidable p] {m m' : Mx σ α} {f : α → Mx σ β} : bd (if p then m else m') f = if p then bd m f else bd m' f := by split <;> rfl
@[simp] theorem oM_sm {v : α} : (oM (some v) : Mx σ α) = pv v := rfl
@[simp] theorem oM_nn : (oM (none : Option α) : Mx σ α) = stM := rfl
@[simp] theorem lf_ok {v : α} : (lf (.ok v) : Mx σ α) = pv v := rfl
@[simp] theorem lf_st : (lf (.st) : Mx σ α) = stM := rfl
@[simp] theorem dep_00 {q : Nat} : dep 0 (some (q, d)) = some d := rfl
@[simp] theorem dep_11 : dep 1 (some (1, d)) = some d := rfl
theorem dep_ok {q : Nat} (h : n ≤ q) : dep n (some (q, d)) = some d := by show (if n ≤ q then some d else none) = _; rw [if_pos h]
@[simp] theorem opM_pv {o : O2} : (opM n o (pv a) (pv b) : Mx σ D) = oM (dep n (binop o a b)) := rfl
@[simp] theorem negM_pv : (negM (pv (.int i)) : Mx σ D) = pv (.int (-i)) := rfl
@[simp] theorem cmpM_pv {o : OC} : (cmpM o (pv a) (pv b) : Mx σ D) = bd (oM (cmpop o a b)) fun r => pv (.bool r) := rfl
@[simp] theorem ixM_pv : (ixM (pv a) (pv (.int k)) : Mx σ D) = oM (getI a k) := rfl
@[simp] theorem tsM_b {t : Bool} : (tsM (pv (.bool t)) : Mx σ Bool) = pv t := rfl
@[simp] theorem tsM_l : (tsM (pv (.list l)) : Mx σ Bool) = pv (!l.isEmpty) := rfl
@[simp] theorem tsM_i : (tsM (pv (.int i)) : Mx σ Bool) = pv (i != 0) := rfl
@[simp] theorem notM_b {t : Bool} : (notM (pv (.bool t)) : Mx σ D) = pv (.bool (!t)) := rfl
@[simp] theorem notM_l : (notM (pv (.list l)) : Mx σ D) = pv (.bool (!!l.isEmpty)) := rfl
@[simp] theorem andM_t : (andM (pv (.bool true)) m : Mx σ D) = m := rfl
@[simp] theorem andM_f : (andM (pv (.bool false)) m : Mx σ D) = pv (.bool false) := rfl
@[simp] theorem orM_t : (orM (pv (.bool true)) m : Mx σ D) = pv (.bool true) := rfl
@[simp] theorem orM_f : (orM (pv (.bool false)) m : Mx σ D) = m := rfl
@[simp] theorem andM_bb {s t : Bool} : (andM (pv (.bool s)) (pv (.bool t)) : Mx σ D) = pv (.bool (s && t)) := by cases s <;> rfl
@[simp] theorem orM_bb {s t : Bool} : (orM (pv (.bool s)) (pv (.bool t)) : Mx σ D) = pv (.bool (s || t)) := by cases s <;> rfl
@[simp] theorem iteM_t {p q : Mx σ α} : iteM (pv true) p q = p := rfl
@[simp] theorem iteM_f {p q : Mx σ α} : iteM (pv false) p q = q := rfl
theorem iteM_b {t : Bool} {p q : Mx σ α} : iteM (pv t) p q = if t = true then p else q := rfl
theorem iteM_at {c : Mx σ Bool} {p q : Mx σ α} {s : σ} {t : Bool} (h : c s = .ok (t, s)) : iteM c p q s = if t = true then p s else q s := by
  unfold iteM bd
  rw [h]
  cases t <;> rfl
@[simp] theorem sqM_nil : (sqM ([] : List (Mx σ α))) = pv [] := rfl
@[simp] theorem sqM_cons {v : α} {r : List (Mx σ α)} : sqM (pv v :: r) = bd (sqM r) fun xs => pv (v :: xs) := rfl
theorem ten_le {n : Nat} (h : n ≤ 100) : n ≤ sizeLine := by rw [sizeLine_eq]; omega
@[simp] theorem tup0 : (tupM [] : Mx σ D) = pv (.tuple []) := by simp [tupM, ten_le]
@[simp] theorem tup1 : (tupM [pv a] : Mx σ D) = pv (.tuple [a]) := by simp [tupM, ten_le]
@[simp] theorem tup2 : (tupM [pv a, pv b] : Mx σ D) = pv (.tuple [a, b]) := by simp [tupM, ten_le]
@[simp] theorem tup3 : (tupM [pv a, pv b, pv c] : Mx σ D) = pv (.tuple [a, b, c]) := by simp [tupM, ten_le]
@[simp] theorem tup4 : (tupM [pv a, pv b, pv c, pv d] : Mx σ D) = pv (.tuple [a, b, c, d]) := by simp [tupM, ten_le]
@[simp] theorem lst0 : (lstM [] : Mx σ D) = pv (.list []) := by simp [lstM, ten_le]
@[simp] theorem lst1 : (lstM [pv a] : Mx σ D) = pv (.list [a]) := by simp [lstM, ten_le]
@[simp] theorem lst2 : (lstM [pv a, pv b] : Mx σ D) = pv (.list [a, b]) := by simp [lstM, ten_le]
@[simp] theorem lst3 : (lstM [pv a, pv b, pv c] : Mx σ D) = pv (.list [a, b, c]) := by simp [lstM, ten_le]
@[simp] theorem lst4 : (lstM [pv a, pv b, pv c, pv d] : Mx σ D) = pv (.list [a, b, c, d]) := by simp [lstM, ten_le]
@[simp] theorem lst5 : (lstM [pv a, pv b, pv c, pv d, pv e] : Mx σ D) = pv (.list [a, b, c, d, e]) := by simp [lstM, ten_le]
variable {F : List D → Rs D}
@[simp] theorem call0 : (callM F [] : Mx σ D) = lf (F []) := rfl
@[simp] theorem call1 : (callM F [pv a] : Mx σ D) = lf (F [a]) := rfl
@[simp] theorem call2 : (callM F [pv a, pv b] : Mx σ D) = lf (F [a, b]) := rfl
@[simp] theorem call3 : (callM F [pv a, pv b, pv c] : Mx σ D) = lf (F [a, b, c]) := rfl
@[simp] theorem call4 : (callM F [pv a, pv b, pv c, pv d] : Mx σ D) = lf (F [a, b, c, d]) := rfl
@[simp] theorem call5 : (callM F [pv a, pv b, pv c, pv d, pv e] : Mx σ D) = lf (F [a, b, c, d, e]) := rfl
@[simp] theorem seqI_l : (seqI (pv (.list l)) : Mx σ (List D)) = pv l := rfl
@[simp] theorem seqI_t : (seqI (pv (.tuple l)) : Mx σ (List D)) = pv l := rfl
@[simp] theorem enI_l : (enI (pv (.list l)) : Mx σ (List D)) = pv (enumD l 0) := rfl
@[simp] theorem zpI_l : (zpI (pv (.list xs)) (pv (.list ys)) : Mx σ (List D)) = pv (zipD xs ys) := rfl
theorem rgOk_of (h : -(2 ^ 62) ≤ i ∧ i < 2 ^ 62) : rgOk i = true := by simp only [rgOk, decide_eq_true_eq]; exact h
theorem rg1_pv (h : -(2 ^ 62) ≤ i ∧ i < 2 ^ 62) : (rg1 (pv (.int i)) : Mx σ (List D)) = pv (rangeD 0 i.toNat) := by
  show (if rgOk i = true then _ else _) = _
  rw [if_pos (rgOk_of h)]
theorem rg2_pv (h : -(2 ^ 62) ≤ i ∧ i < 2 ^ 62) (h2 : -(2 ^ 62) ≤ j ∧ j < 2 ^ 62) : (rg2 (pv (.int i)) (pv (.int j)) : Mx σ (List D)) = pv (rangeD i (j - i).toNat) := by
  show (if rgOk i && rgOk j = true then _ else _) = _
  rw [rgOk_of h, rgOk_of h2]
  rfl
theorem slM_pv {o o' : Option Int} : (slM n (pv a) (pv o) (pv o') : Mx σ D) = oM (dep n (slD a o o')) := rfl
@[simp] theorem noP_ : (noP : Mx σ (Option Int)) = pv none := rfl
@[simp] theorem exP_ : (exP (pv (.int i)) : Mx σ (Option Int)) = pv (some i) := rfl
@[simp] theorem slM_pv' {o o' : Option Int} : (slM n (pv a) (pv o) (pv o') : Mx σ D) = oM (dep n (slD a o o')) := rfl
@[simp] theorem revM_pv : (revM (pv (.list l)) : Mx σ D) = pv (.list l.reverse) := rfl
@[simp] theorem b1M_pv {f : B1} : (b1M n f (pv a) : Mx σ D) = oM (dep n (b1v f a)) := rfl
@[simp] theorem b2M_pv {f : B2} : (b2M f (pv a) (pv b) : Mx σ D) = oM (dep 0 (b2v f a b)) := rfl
@[simp] theorem mthM_pv {f : B2} : (mthM f (pv (.list l)) (pv b) : Mx σ D) = oM (dep 0 (b2v f (.list l) b)) := rfl
@[simp] theorem un2_ {f : D → D → Mx σ α} : un2 (.tuple [a, b]) f = f a b := rfl
@[simp] theorem un2_l {f : D → D → Mx σ α} : un2 (.list [a, b]) f = f a b := rfl
@[simp] theorem un3_ {f : D → D → D → Mx σ α} : un3 (.tuple [a, b, c]) f = f a b c := rfl
@[simp] theorem un4_ {f : D → D → D → D → Mx σ α} : un4 (.tuple [a, b, c, d]) f = f a b c d := rfl
@[simp] theorem un5_ {f : D → D → D → D → D → Mx σ α} : un5 (.tuple [a, b, c, d, e]) f = f a b c d e := rfl
@[simp] theorem keepM_b {t : Bool} : (keepM (pv (.bool t)) (pv d) : Mx σ (Option D)) = pv (if t = true then some d else none) := by cases t <;> rfl
@[simp] theorem allM_ : (allM (pv d) : Mx σ (Option D)) = pv (some d) := rfl
variable {ρ ρ' γ : Type}
@[simp] theorem rtM_ : (rtM (pv d) : Mx σ (Oc ρ γ)) = pv (.rt d) := rfl
@[simp] theorem nxM_ {r : ρ} : (nxM r : Mx σ (Oc ρ γ)) = pv (.nx r) := rfl
@[simp] theorem sqO_n {r : ρ'} {k : ρ' → Mx σ (Oc ρ γ)} : sqO (pv (.nx r)) k = k r := rfl
@[simp] theorem sqO_r {k : ρ' → Mx σ (Oc ρ γ)} : sqO (pv (.rt d)) k = pv (.rt d) := rfl
theorem sqO_at {m : Mx σ (Oc ρ' γ)} {k : ρ' → Mx σ (Oc ρ γ)} {s s' : σ} {r : ρ'} (h : m s = .ok (.nx r, s')) : sqO m k s = k r s' := by
  unfold sqO bd
  rw [h]
@[simp] theorem forM_ {r : ρ} {f : D → ρ → Mx σ (Oc ρ ρ)} : (forM (pv ds) r f : Mx σ (Oc ρ γ)) = forG f ds r := rfl
@[simp] theorem forG_nil {r : ρ} {f : D → ρ → Mx σ (Oc ρ ρ)} : (forG f [] r : Mx σ (Oc ρ γ)) = pv (.nx r) := rfl
theorem forG_cons {r : ρ} {f : D → ρ → Mx σ (Oc ρ ρ)} : (forG f (d :: ds) r : Mx σ (Oc ρ γ)) = bd (f d r) fun o => match o with | .nx r' => forG f ds r' | .ct r' => forG f ds r' | .bk r' => pv (.nx r') | .rt d => pv (.rt d) := rfl
theorem appM_l {k : D → Mx σ α} (h : xs.length < sizeLine) : appM (.list xs) (pv d) k = k (.list (xs ++ [d])) := by
  show (bd (pv d) fun d => if xs.length < sizeLine then k (.list (xs ++ [d])) else stM) = _
  rw [bd_pv_, if_pos h]
@[simp] theorem runM_r : runM (pv (.rt d)) = .ok d := by unfold runM; rfl
@[simp] theorem runM_n {r : Unit} : runM (pv (.nx r)) = .ok .none := by unfold runM; rfl
theorem runG_r {s : D} : runG (pv (.rt d)) s = .ok (d, s) := by unfold runG; rfl
/-! comprehensions -/
theorem compG_eq {T : Type} {f : D → Mx σ (Option D)} {enc : T → D} (g : T → Option D) : ∀ (ts : List T) (acc : List D), (∀ t ∈ ts, f (enc t) = pv (g t)) → acc.length + ts.length ≤ sizeLine → compG f (ts.map enc) acc = pv (acc ++ ts.filterMap g)
  | [], acc, _, _ => by simp [compG]
  | t :: ts, acc, h, hl => by
    have hl : acc.length + (ts.length + 1) ≤ sizeLine := hl
    have h1 := h t List.mem_cons_self
    have ht := fun t' q => h t' (List.mem_cons_of_mem _ q)
    rw [List.map_cons, compG, h1]
    show (match g t with | none => compG f (ts.map enc) acc | some e => if acc.length < sizeLine then compG f (ts.map enc) (acc ++ [e]) else stM) = _
    cases q : g t with
    | none =>
      simp only
      rw [compG_eq g ts acc ht (by omega), List.filterMap_cons, q]
    | some e =>
      simp only
      rw [if_pos (by omega), compG_eq g ts (acc ++ [e]) ht (by simp; omega), List.filterMap_cons, q]
      simp
theorem compM_fm {T : Type} {f : D → Mx σ (Option D)} {enc : T → D} {ts : List T} (g : T → Option D) (h : ∀ t ∈ ts, f (enc t) = pv (g t)) (hl : ts.length ≤ sizeLine) : compM (pv (ts.map enc)) f = pv (.list (ts.filterMap g)) := by
  unfold compM
  rw [bd_pv_, compG_eq g ts [] h (by simpa using hl)]
  rfl
theorem compM_filter {T : Type} {f : D → Mx σ (Option D)} {enc : T → D} {ts : List T} (p : T → Bool) (g : T → D) (h : ∀ t ∈ ts, f (enc t) = pv (if p t = true then some (g t) else none)) (hl : ts.length ≤ sizeLine) : compM (pv (ts.map enc)) f = pv (.list ((ts.filter p).map g)) := by
  rw [compM_fm (fun t => if p t = true then some (g t) else none) h hl]
  congr 2
  induction ts with
  | nil => rfl
  | cons t ts ih =>
    have ih := ih (fun t q => h t (List.mem_cons_of_mem _ q)) (by simp at hl; omega)
    rw [List.filterMap_cons, List.filter_cons]
    by_cases q : p t = true
    · rw [if_pos q, if_pos q, List.map_cons, ih]
    · rw [if_neg q, if_neg q, ih]
theorem compM_map {T : Type} {f : D → Mx σ (Option D)} {enc : T → D} {ts : List T} (g : T → D) (h : ∀ t ∈ ts, f (enc t) = pv (some (g t))) (hl : ts.length ≤ sizeLine) : compM (pv (ts.map enc)) f = pv (.list (ts.map g)) := by
  rw [compM_fm (fun t => some (g t)) h hl]
  simp
/-! loops -/
theorem forG_fold {T : Type} {f : D → ρ → Mx σ (Oc ρ ρ)} {enc : T → D} (g : ρ → T → ρ) : ∀ (ts : List T) (r : ρ), (∀ t ∈ ts, ∀ r, f (enc t) r = pv (.nx (g r t))) → (forG f (ts.map enc) r : Mx σ (Oc ρ γ)) = pv (.nx (ts.foldl g r))
  | [], r, _ => rfl
  | t :: ts, r, h => by
    rw [List.map_cons, forG_cons, h t List.mem_cons_self]
    exact forG_fold g ts (g r t) fun t' q => h t' (List.mem_cons_of_mem _ q)
theorem forG_inv {f : D → ρ → Mx σ (Oc ρ ρ)} (I : Nat → ρ → Prop) : ∀ (ds : List D) (i : Nat) (r : ρ), I i r → (∀ j d r, ds[j]? = some d → I (i + j) r → ∃ r', f d r = pv (.nx r') ∧ I (i + j + 1) r') → ∃ r', (forG f ds r : Mx σ (Oc ρ γ)) = pv (.nx r') ∧ I (i + ds.length) r'
  | [], i, r, h, _ => ⟨r, rfl, h⟩
  | d :: ds, i, r, h, st => by
    obtain ⟨r1, e1, h1⟩ := st 0 d r rfl h
    obtain ⟨r2, e2, h2⟩ := forG_inv I ds (i + 1) r1 h1 fun j d r q hj => by
      have := st (j + 1) d r (by simpa using q) (by rw [show i + (j + 1) = i + 1 + j by omega]; exact hj)
      rw [show i + (j + 1) + 1 = i + 1 + j + 1 by omega] at this
      exact this
    refine ⟨r2, ?_, by rw [List.length_cons, show i + (ds.length + 1) = i + 1 + ds.length by omega]; exact h2⟩
    rw [forG_cons, e1]
    exact e2
/-! ### with a state: what surely comes -/
def Tp (P : α → σ → Prop) (m : Mx σ α) (s : σ) : Prop := ∃ a s', m s = .ok (a, s') ∧ P a s'
variable {s : σ}
theorem Tp.pv {P : α → σ → Prop} {v : α} (h : P v s) : Tp P (pv v) s := ⟨v, s, rfl, h⟩
theorem Tp.bd {P : β → σ → Prop} {m : Mx σ α} {f : α → Mx σ β} (h : Tp (fun a s' => Tp P (f a) s') m s) : Tp P (bd m f) s := by
  obtain ⟨a, s', e, b, s2, e2, h2⟩ := h
  refine ⟨b, s2, ?_, h2⟩
  unfold Kr.bd
  rw [e]
  exact e2
theorem Tp.imp {P Q : α → σ → Prop} {m : Mx σ α} (h : Tp P m s) (i : ∀ a s, P a s → Q a s) : Tp Q m s := by
  obtain ⟨a, s', e, h⟩ := h
  exact ⟨a, s', e, i a s' h⟩
theorem Tp.sqO {P : Oc ρ γ → σ → Prop} {m : Mx σ (Oc ρ' γ)} {k : ρ' → Mx σ (Oc ρ γ)} (h : Tp (fun o s' => ∃ r, o = .nx r ∧ Tp P (k r) s') m s) : Tp P (sqO m k) s := by
  refine Tp.bd (h.imp fun o s' q => ?_)
  obtain ⟨r, rfl, q⟩ := q
  exact q
theorem Tp.for_ {f : D → ρ → Mx σ (Oc ρ ρ)} (I : Nat → ρ → σ → Prop) : ∀ (ds : List D) (i : Nat) (r : ρ) (s : σ), I i r s → (∀ j d r s, ds[j]? = some d → I (i + j) r s → Tp (fun o s' => ∃ r', o = .nx r' ∧ I (i + j + 1) r' s') (f d r) s) → Tp (fun o s' => ∃ r', o = .nx r' ∧ I (i + ds.length) r' s') (forG f ds r : Mx σ (Oc ρ γ)) s
  | [], i, r, s, h, _ => .pv ⟨r, rfl, h⟩
  | d :: ds, i, r, s, h, st => by
    rw [forG_cons]
    refine Tp.bd ((st 0 d r s rfl h).imp fun o s' q => ?_)
    obtain ⟨r', rfl, q⟩ := q
    have := Tp.for_ I ds (i + 1) r' s' q fun j d r s q hj => by
      have := st (j + 1) d r s (by simpa using q) (by rw [show i + (j + 1) = i + 1 + j by omega]; exact hj)
      rw [show i + (j + 1) + 1 = i + 1 + j + 1 by omega] at this
      exact this
    refine this.imp fun o s2 q => ?_
    rw [List.length_cons, show i + (ds.length + 1) = i + 1 + ds.length by omega]
    exact q
theorem Tp.comp {f : D → Mx σ (Option D)} (I : Nat → List D → σ → Prop) : ∀ (ds : List D) (i : Nat) (acc : List D) (s : σ), I i acc s → (∀ j d acc s, ds[j]? = some d → I (i + j) acc s → Tp (fun o s' => I (i + j + 1) (acc ++ o.toList) s') (f d) s) → acc.length + ds.length ≤ sizeLine → Tp (fun acc s' => I (i + ds.length) acc s') (compG f ds acc) s
  | [], i, acc, s, h, _, _ => .pv h
  | d :: ds, i, acc, s, h, st, hl => by
    have hl : acc.length + (ds.length + 1) ≤ sizeLine := hl
    rw [compG]
    refine Tp.bd ?_
    obtain ⟨o, s', e, q⟩ := st 0 d acc s rfl h
    refine ⟨o, s', by unfold nex; rw [e], ?_⟩
    have step : ∀ acc', I (i + 1) acc' s' → acc'.length + ds.length ≤ sizeLine → Tp (fun acc s' => I (i + (d :: ds).length) acc s') (compG f ds acc') s' := fun acc' q hl' => by
      have := Tp.comp I ds (i + 1) acc' s' q (fun j d r s q hj => by
        have := st (j + 1) d r s (by simpa using q) (by rw [show i + (j + 1) = i + 1 + j by omega]; exact hj)
        rw [show i + (j + 1) + 1 = i + 1 + j + 1 by omega] at this
        exact this) hl'
      refine this.imp fun o s2 q => ?_
      rw [List.length_cons, show i + (ds.length + 1) = i + 1 + ds.length by omega]
      exact q
    cases o with
    | none =>
      have q : I (i + 1) (acc ++ []) s' := q
      rw [List.append_nil] at q
      exact step acc q (by omega)
    | some e =>
      show Tp _ (if acc.length < sizeLine then _ else _) _
      rw [if_pos (by omega)]
      exact step _ q (by simp; omega)
end
/-! ### the law's end -/
theorem runM_of {m : Mx Unit (Oc Unit Empty)} {d : D} (h : Tp (fun o _ => o = .rt d) m ()) : runM m = .ok d := by
  obtain ⟨a, s, e, rfl⟩ := h
  unfold runM
  rw [e]
theorem runG_of {m : Mx D (Oc Unit Empty)} {P : D → D → Prop} {s : D} (h : Tp (fun o s' => ∃ d, o = .rt d ∧ P d s') m s) : ∃ d s', runG m s = .ok (d, s') ∧ P d s' := by
  obtain ⟨a, s', e, d, rfl, h⟩ := h
  refine ⟨d, s', ?_, h⟩
  unfold runG
  rw [e]
theorem Tp.callG {F : D → List D → Rs (D × D)} {P : D → D → Prop} {l : List (Mx D D)} {ds : List D} {s : D} (hl : sqM l s = .ok (ds, s)) (h : ∃ d s', F s ds = .ok (d, s') ∧ P d s') : Tp P (callG F l) s := by
  obtain ⟨d, s', e, h⟩ := h
  refine ⟨d, s', ?_, h⟩
  unfold Kr.callG Kr.bd
  rw [hl]
  show (match F s ds with | .st => Rs.st | .ok p => Rs.ok p | .ex _ _ => Rs.st) = _
  rw [e]
theorem Sh.ret {n : Nat} {o : Option CRes} {d : D} {r : Rs D} (h : Sh n o r) (e : r = .ok d) : o = some (.ret n d []) := by
  subst e
  exact h
/-- a def whose answer is known for each depth of the run -/
noncomputable def Fc (T : Tb) (n lv : Nat) (f : String) (ds : List D) : Rs D := open Classical in if h : ∃ d, ∀ k, callK T (k + lv) f ds = some (.ret n d []) then .ok h.choose else .st
theorem Fc_sh (T : Tb) (n lv : Nat) (f : String) (k : Nat) (ds : List D) : Sh n (callK T (k + lv) f ds) (Fc T n lv f ds) := by
  unfold Fc
  split
  · rename_i h
    exact h.choose_spec k
  · trivial
theorem Fc_eq {T : Tb} {n lv : Nat} {f : String} {ds : List D} {d : D} (h : ∀ k, callK T (k + lv) f ds = some (.ret n d [])) : Fc T n lv f ds = .ok d := by
  have hx : ∃ d, ∀ k, callK T (k + lv) f ds = some (.ret n d []) := ⟨d, h⟩
  unfold Fc
  rw [dif_pos hx]
  have := (hx.choose_spec 0).symm.trans (h 0)
  injection this with this
  injection this with _ this _
  rw [this]
end Kr

set_option Elab.async false
set_option linter.all false
set_option maxRecDepth 100000
set_option maxHeartbeats 1000000
namespace Kz
open PySem PySem.Spec PyProof.Rows L2 Kr
/-! ### ints, lists, and the law's draws -/
abbrev iL (ns : List Int) : D := .list (ns.map PyData.int)
theorem mulR {i j : Int} (h : -(2 ^ 64) < j ∧ j < 2 ^ 64) : mulOk i j = true := by simp only [mulOk, Bool.or_eq_true, decide_eq_true_eq]; exact .inr h
theorem mulL {i j : Int} (h : -(2 ^ 64) < i ∧ i < 2 ^ 64) : mulOk i j = true := by simp only [mulOk, Bool.or_eq_true, decide_eq_true_eq]; exact .inl h
theorem iop_mul {i j : Int} (h : mulOk i j = true) : iop .mul i j = some (i * j) := by simp [iop, h]
theorem iop_mod {i j : Int} (h : 0 < j) : iop .mod i j = some (i % j) := by simp [iop, h]
theorem iop_fdiv {i j : Int} (h : 0 < j ∧ j < 2 ^ 60) : iop .fdiv i j = some (i / j) := by
  have : j.natAbs.log2 < 60 := (Nat.log2_lt (by omega)).mpr (by omega)
  simp only [iop]
  rw [if_pos ⟨h.1, by omega⟩]
@[simp] theorem iop_add {i j : Int} : iop .add i j = some (i + j) := rfl
@[simp] theorem iop_sub {i j : Int} : iop .sub i j = some (i - j) := rfl
@[simp] theorem bin_ii {o : O2} {i j : Int} : binop o (.int i) (.int j) = (iop o i j).map fun k => (0, .int k) := rfl
@[simp] theorem b1_int {i : Int} : b1v .int (.int i) = some (0, .int i) := rfl
@[simp] theorem b1_intb {b : Bool} : b1v .int (.bool b) = some (0, .int (if b then 1 else 0)) := rfl
@[simp] theorem b1_lenl {l : List D} : b1v .len (.list l) = some (0, .int l.length) := rfl
@[simp] theorem b1_lent {l : List D} : b1v .len (.tuple l) = some (0, .int l.length) := rfl
@[simp] theorem b1_ll {l : List D} : b1v .list (.list l) = some (1, .list l) := rfl
@[simp] theorem b1_lt {l : List D} : b1v .list (.tuple l) = some (1, .list l) := rfl
@[simp] theorem b1_tl {l : List D} : b1v .tuple (.list l) = some (0, .tuple l) := rfl
@[simp] theorem b1_tt {l : List D} : b1v .tuple (.tuple l) = some (0, .tuple l) := rfl
@[simp] theorem c_eqI {i j : Int} : cmpop .eq (.int i) (.int j) = some (decide (i = j)) := by
  show some (i == j) = _
  rw [show (i == j) = decide (i = j) from Bool.beq_eq_decide_eq i j]
@[simp] theorem c_neI {i j : Int} : cmpop .ne (.int i) (.int j) = some (!decide (i = j)) := by
  show some (!(i == j)) = _
  rw [show (i == j) = decide (i = j) from Bool.beq_eq_decide_eq i j]
@[simp] theorem c_ltI {i j : Int} : cmpop .lt (.int i) (.int j) = some (decide (i < j)) := rfl
@[simp] theorem c_leI {i j : Int} : cmpop .le (.int i) (.int j) = some (decide (i ≤ j)) := rfl
@[simp] theorem c_gtI {i j : Int} : cmpop .gt (.int i) (.int j) = some (decide (j < i)) := rfl
@[simp] theorem c_geI {i j : Int} : cmpop .ge (.int i) (.int j) = some (decide (j ≤ i)) := rfl
@[simp] theorem c_eqB {i j : Bool} : cmpop .eq (.bool i) (.bool j) = some (i == j) := rfl
@[simp] theorem c_isN {x : D} : cmpop .is x .none = some (isNoneD x) := rfl
@[simp] theorem c_isnotN {x : D} : cmpop .isnot x .none = some (!isNoneD x) := rfl
@[simp] theorem nn_int {i : Int} : isNoneD (.int i) = false := rfl
@[simp] theorem nn_none : isNoneD .none = true := rfl
@[simp] theorem nn_list {l : List D} : isNoneD (.list l) = false := rfl
@[simp] theorem b2_min {i j : Int} : b2v .min (.int i) (.int j) = some (0, .int (if j < i then j else i)) := rfl
@[simp] theorem b2_max {i j : Int} : b2v .max (.int i) (.int j) = some (0, .int (if j > i then j else i)) := rfl
@[simp] theorem b1_bits {i : Int} : b1v .bitlen (.int i) = some (0, .int (Builtin.Int.intBits i : Nat)) := rfl
@[simp] theorem b1_sum (ns : List Int) : b1v .sum (iL ns) = some (0, .int ns.sum) := by
  show (intsD (ns.map PyData.int)).map _ = _
  rw [intsD_of]; rfl
section
variable {a b c d e : D} {xs ys : List D}
@[simp] theorem gt2_0 : getI (.tuple [a, b]) 0 = some a := rfl
@[simp] theorem gt2_1 : getI (.tuple [a, b]) 1 = some b := rfl
@[simp] theorem gt3_0 : getI (.tuple [a, b, c]) 0 = some a := rfl
@[simp] theorem gt3_1 : getI (.tuple [a, b, c]) 1 = some b := rfl
@[simp] theorem gt3_2 : getI (.tuple [a, b, c]) 2 = some c := rfl
@[simp] theorem gl2_0 : getI (.list [a, b]) 0 = some a := rfl
@[simp] theorem gl2_1 : getI (.list [a, b]) 1 = some b := rfl
@[simp] theorem gl3_0 : getI (.list [a, b, c]) 0 = some a := rfl
@[simp] theorem gl3_1 : getI (.list [a, b, c]) 1 = some b := rfl
@[simp] theorem gl3_2 : getI (.list [a, b, c]) 2 = some c := rfl
theorem get_nat {i : Nat} (h : i < xs.length) : getI (.list xs) (i : Int) = some xs[i] := by
  show atI xs (i : Int) = _
  exact atI_nat (List.getElem?_eq_getElem h)
theorem get_nat? {i : Nat} {x : D} (h : xs[i]? = some x) : getI (.list xs) (i : Int) = some x := by
  show atI xs (i : Int) = _
  exact atI_nat h
theorem get_int {i : Int} {x : D} (h0 : 0 ≤ i) (h : xs[i.toNat]? = some x) : getI (.list xs) i = some x := by
  have := get_nat? h
  rwa [Int.toNat_of_nonneg h0] at this
theorem bin_ll (h : xs.length + ys.length ≤ sizeLine) : binop .add (.list xs) (.list ys) = some (1, .list (xs ++ ys)) := by
  show (if O2.add = O2.add ∧ _ then _ else _) = _
  rw [if_pos ⟨rfl, h⟩]
theorem bin_tt (h : xs.length + ys.length ≤ sizeLine) : binop .add (.tuple xs) (.tuple ys) = some (0, .tuple (xs ++ ys)) := by
  show (if O2.add = O2.add ∧ _ then _ else _) = _
  rw [if_pos ⟨rfl, h⟩]
theorem cut_take (xs : List D) (j : Nat) : Kr.cutD xs none (some (j : Int)) = xs.take j := by
  unfold Kr.cutD
  rw [HT.sIx_none, HT.sIx_nat, List.drop_zero, Nat.sub_zero, List.take_eq_take_iff]
  omega
theorem cut_drop (xs : List D) (j : Nat) : Kr.cutD xs (some (j : Int)) none = xs.drop j := by
  unfold Kr.cutD
  rw [HT.sIx_none, HT.sIx_nat]
  by_cases h : j ≤ xs.length
  · rw [Nat.min_eq_left h, List.take_of_length_le (by simp)]
  · rw [Nat.min_eq_right (by omega), List.drop_of_length_le (by omega), List.drop_of_length_le (by omega)]
    simp
theorem sl_take {j : Int} (h : 0 ≤ j) : slD (.list xs) none (some j) = some (1, .list (xs.take j.toNat)) := by
  have := cut_take xs j.toNat
  rw [Int.toNat_of_nonneg h] at this
  show some (1, PyData.list (Kr.cutD xs none (some j))) = _
  rw [this]
theorem sl_drop {j : Int} (h : 0 ≤ j) : slD (.list xs) (some j) none = some (1, .list (xs.drop j.toNat)) := by
  have := cut_drop xs j.toNat
  rw [Int.toNat_of_nonneg h] at this
  show some (1, PyData.list (Kr.cutD xs (some j) none)) = _
  rw [this]
end
@[simp] theorem rangeD_len (lo : Int) (n : Nat) : (rangeD lo n).length = n := by simp [rangeD]
theorem rangeD_map (lo : Int) (n : Nat) : rangeD lo n = ((List.range n).map fun k => lo + (k : Nat)).map PyData.int := by simp [rangeD]
theorem rangeD_get? {lo : Int} {n j : Nat} {d : D} (h : (rangeD lo n)[j]? = some d) : d = .int (lo + (j : Nat)) ∧ j < n := by
  unfold rangeD at h
  rw [List.getElem?_map] at h
  rcases Nat.lt_or_ge j n with q | q
  · rw [List.getElem?_range q] at h
    cases h
    exact ⟨rfl, q⟩
  · rw [List.getElem?_eq_none (by simpa using q)] at h
    cases h
/-! draws -/
abbrev gen (a b c : Int) : D := .list [.int a, .int b, .int c]
def hashV (s i : Int) : Int :=
  let a := (s * 1140671 + 27644437 * i * i + 131 * i + 19) % 2147483629
  let b := (a * a + 62089 * i + 32416187) % 2147483587
  (b * 48271) % 2147483647
/-- a generator from which so much may be drawn -/
def G (m : Nat) (g : D) : Prop := ∃ a b c : Int, g = gen a b c ∧ 0 ≤ a ∧ 0 ≤ c ∧ c + 10 * (m : Int) ≤ 2 ^ 59
theorem G.mono {m n : Nat} {g : D} (h : G m g) (hn : n ≤ m) : G n g := by
  obtain ⟨a, b, c, e, h1, h2, h3⟩ := h
  exact ⟨a, b, c, e, h1, h2, by omega⟩
theorem bits_small {b : Int} (h : 0 < b ∧ b < 2 ^ 60) : Builtin.Int.intBits b ≤ 64 := intBits_le_64 (by omega) (by omega)
/-- what a draw is -/
def RndOk (F : D → List D → Rs (D × D)) : Prop := ∀ (m : Nat) (g : D) (b : Int), G (m + 1) g → 0 < b ∧ b < 2 ^ 60 → ∃ (r : Int) (g' : D), F g [.int b] = .ok (.int r, g') ∧ 0 ≤ r ∧ r < b ∧ G m g'
theorem Tp.rnd {F : D → List D → Rs (D × D)} (hF : RndOk F) {P : D → D → Prop} {m : Nat} {g : D} {b : Int} (hg : G (m + 1) g) (hb : 0 < b ∧ b < 2 ^ 60) (h : ∀ (r : Int) (g' : D), 0 ≤ r → r < b → G m g' → P (.int r) g') : Tp P (callG F [Kr.pv (.int b)]) g := by
  obtain ⟨r, g', e, h0, h1, h2⟩ := hF m g b hg hb
  exact Tp.callG (ds := [.int b]) rfl ⟨_, _, e, h r g' h0 h1 h2⟩
end Kz

set_option Elab.async false
set_option linter.all false
set_option maxRecDepth 100000
set_option maxHeartbeats 1000000
namespace Kz
open PySem PySem.Spec PyProof.Rows L2 Kr
section
variable {σ α β : Type} {s : σ}
/-- a draw, then the rest -/
theorem Tp.rndb {F : D → List D → Rs (D × D)} (hF : RndOk F) {P : α → D → Prop} {m : Nat} {g : D} {b : Int} {f : D → Mx D α} (hg : G (m + 1) g) (hb : 0 < b ∧ b < 2 ^ 60) (h : ∀ (r : Int) (g' : D), 0 ≤ r → r < b → G m g' → Kr.Tp P (f (.int r)) g') : Kr.Tp P (bd (callG F [Kr.pv (.int b)]) f) g :=
  Kr.Tp.bd (Tp.rnd hF hg hb h)
theorem Tp.ite {P : α → σ → Prop} {c : Mx σ Bool} {p q : Mx σ α} (h : Kr.Tp (fun t s' => if t = true then Kr.Tp P p s' else Kr.Tp P q s') c s) : Kr.Tp P (iteM c p q) s := by
  refine Kr.Tp.bd (h.imp fun t s' q => ?_)
  cases t <;> exact q
/-- either way will do -/
theorem Tp.ite2 {P : α → σ → Prop} {c : Mx σ Bool} {p q : Mx σ α} (h : Kr.Tp (fun _ s' => Kr.Tp P p s' ∧ Kr.Tp P q s') c s) : Kr.Tp P (iteM c p q) s := by
  refine Kr.Tp.bd (h.imp fun t s' q => ?_)
  cases t
  · exact q.2
  · exact q.1
/-- a truth value, whichever -/
def Bl (I : σ → Prop) (m : Mx σ D) (s : σ) : Prop := Kr.Tp (fun x s' => (∃ t, x = .bool t) ∧ I s') m s
theorem Bl.ts {I : σ → Prop} {P : Bool → σ → Prop} {m : Mx σ D} (h : Bl I m s) (i : ∀ t s', I s' → P t s') : Kr.Tp P (tsM m) s := by
  refine Kr.Tp.bd (h.imp fun x s' q => ?_)
  obtain ⟨⟨t, rfl⟩, q⟩ := q
  exact ⟨t, s', rfl, i t s' q⟩
theorem Bl.or {I : σ → Prop} {a b : Mx σ D} (h : Bl I a s) (h2 : ∀ s', I s' → Bl I b s') : Bl I (orM a b) s := by
  refine Kr.Tp.bd (h.imp fun x s' q => ?_)
  obtain ⟨⟨t, rfl⟩, q⟩ := q
  cases t with
  | true => exact ⟨_, s', rfl, ⟨_, rfl⟩, q⟩
  | false => exact h2 s' q
theorem Bl.and {I : σ → Prop} {a b : Mx σ D} (h : Bl I a s) (h2 : ∀ s', I s' → Bl I b s') : Bl I (andM a b) s := by
  refine Kr.Tp.bd (h.imp fun x s' q => ?_)
  obtain ⟨⟨t, rfl⟩, q⟩ := q
  cases t with
  | false => exact ⟨_, s', rfl, ⟨_, rfl⟩, q⟩
  | true => exact h2 s' q
theorem Bl.pv {I : σ → Prop} {t : Bool} (h : I s) : Bl I (Kr.pv (.bool t)) s := ⟨_, s, rfl, ⟨t, rfl⟩, h⟩
theorem callG_arg {F : D → List D → Rs (D × D)} {m : Mx D D} : callG F [m] = bd m fun x => callG F [Kr.pv x] := by
  funext s
  unfold callG sqM bd
  cases m s <;> rfl
theorem Tp.pvb {P : β → σ → Prop} {v : α} {f : α → Mx σ β} (h : Kr.Tp P (f v) s) : Kr.Tp P (bd (Kr.pv v) f) s := h
end
/-- the loop over a range -/
theorem Tp.range {σ ρ γ : Type} {f : D → ρ → Mx σ (Oc ρ ρ)} (I : Nat → ρ → σ → Prop) {lo : Int} {n : Nat} {r : ρ} {s : σ} (h0 : I 0 r s) (st : ∀ j r s, j < n → I j r s → Kr.Tp (fun o s' => ∃ r', o = .nx r' ∧ I (j + 1) r' s') (f (.int (lo + (j : Nat))) r) s) : Kr.Tp (fun o s' => ∃ r', o = .nx r' ∧ I n r' s') (forG f (rangeD lo n) r : Mx σ (Oc ρ γ)) s := by
  have := Kr.Tp.for_ (γ := γ) I (rangeD lo n) 0 r s h0 fun j d r s q hj => by
    obtain ⟨rfl, hn⟩ := rangeD_get? q
    rw [Nat.zero_add] at hj ⊢
    exact st j r s hn hj
  rw [Nat.zero_add, rangeD_len] at this
  exact this
theorem Tp.nxrt {σ ρ γ : Type} {s : σ} {P : Oc ρ γ → σ → Prop} {r : ρ} (h : P (.nx r) s) : Kr.Tp P (nxM r) s := ⟨_, s, rfl, h⟩
/-- a function that changes the state, then the rest -/
theorem Tp.callGb {α : Type} {F : D → List D → Rs (D × D)} {P : α → D → Prop} {Q : D → D → Prop} {l : List (Mx D D)} {ds : List D} {s : D} {f : D → Mx D α} (hl : sqM l s = .ok (ds, s)) (h : ∃ d s', F s ds = .ok (d, s') ∧ Q d s') (k : ∀ d s', Q d s' → Kr.Tp P (f d) s') : Kr.Tp P (bd (callG F l) f) s :=
  Kr.Tp.bd ((Kr.Tp.callG hl h).imp fun d s' q => k d s' q)
end Kz

set_option Elab.async false
set_option linter.all false
set_option maxRecDepth 100000
set_option maxHeartbeats 1000000
namespace Kz
open PySem PySem.Spec PyProof.Rows L2 Kr
/-! ### small data: it may be shown, and compared -/
mutual
def leaf (b : Bool) : D → Bool
  | .none => true
  | .bool _ => true
  | .int i => decide (i.natAbs < 10 ^ 60)
  | .str x => (PyData.strOk x && PyData.strOk (reprText x)) && x.cps.toList.all fun c => decide (c < 16 ^ 8)
  | .list xs => leafA b xs
  | .tuple xs => leafA b xs
  | .dict kvs => b && kvs.isEmpty
def leafA (b : Bool) : List D → Bool
  | [] => true
  | x :: xs => leaf b x && leafA b xs
end
mutual
theorem leaf_short {b : Bool} : ∀ d : D, leaf b d = true → d.leavesShort 64 = true
  | .none, _ => by rw [PyData.leavesShort]
  | .bool _, _ => by rw [PyData.leavesShort]
  | .int i, h => by
    rw [leaf, decide_eq_true_eq] at h
    rw [PyData.leavesShort, decide_eq_true_eq]
    have e := int_text_length_le10 (k := 60) (by decide) h
    show (Str.ofString (toString i)).length ≤ 64
    rw [PySem.ofString_length]; omega
  | .str x, h => by
    rw [leaf, Bool.and_eq_true] at h
    rw [PyData.leavesShort]; exact h.2
  | .list xs, h => by rw [leaf] at h; rw [PyData.leavesShort]; exact leafA_short xs h
  | .tuple xs, h => by rw [leaf] at h; rw [PyData.leavesShort]; exact leafA_short xs h
  | .dict kvs, h => by
    rw [leaf, Bool.and_eq_true, List.isEmpty_iff] at h
    rw [h.2]; rfl
theorem leafA_short {b : Bool} : ∀ xs : List D, leafA b xs = true → PyData.leavesShortAll 64 xs = true
  | [], _ => by rw [PyData.leavesShortAll]
  | x :: xs, h => by
    rw [leafA, Bool.and_eq_true] at h
    rw [PyData.leavesShortAll, leaf_short x h.1, leafA_short xs h.2]; rfl
end
mutual
theorem leaf_show {b : Bool} : ∀ d : D, leaf b d = true → d.showable = true
  | .none, _ => by rw [PyData.showable]
  | .bool _, _ => by rw [PyData.showable]
  | .int i, h => by
    rw [leaf, decide_eq_true_eq] at h
    rw [PyData.showable, decide_eq_true_eq]
    by_cases h0 : i.natAbs = 0
    · rw [h0]; decide
    · have : i.natAbs.log2 < 200 := (Nat.log2_lt h0).mpr (Nat.lt_of_lt_of_le h (by decide))
      omega
  | .str x, h => by rw [PyData.showable]
  | .list xs, h => by rw [leaf] at h; rw [PyData.showable]; exact leafA_show xs h
  | .tuple xs, h => by rw [leaf] at h; rw [PyData.showable]; exact leafA_show xs h
  | .dict kvs, h => by
    rw [leaf, Bool.and_eq_true, List.isEmpty_iff] at h
    rw [h.2]; rfl
theorem leafA_show {b : Bool} : ∀ xs : List D, leafA b xs = true → PyData.showableAll xs = true
  | [], _ => by rw [PyData.showableAll]
  | x :: xs, h => by
    rw [leafA, Bool.and_eq_true] at h
    rw [PyData.showableAll, leaf_show x h.1, leafA_show xs h.2]; rfl
end
mutual
theorem leaf_dicts {b : Bool} : ∀ d : D, leaf b d = true → dictsOk d = true
  | .none, _ => rfl
  | .bool _, _ => rfl
  | .int i, h => rfl
  | .str x, h => rfl
  | .list xs, h => by rw [leaf] at h; rw [dictsOk]; exact leafA_dicts xs h
  | .tuple xs, h => by rw [leaf] at h; rw [dictsOk]; exact leafA_dicts xs h
  | .dict kvs, h => by
    rw [leaf, Bool.and_eq_true] at h
    rw [dictsOk]; exact h.2
theorem leafA_dicts {b : Bool} : ∀ xs : List D, leafA b xs = true → dictsOkAll xs = true
  | [], _ => by rw [dictsOkAll]
  | x :: xs, h => by
    rw [leafA, Bool.and_eq_true] at h
    rw [dictsOkAll, leaf_dicts x h.1, leafA_dicts xs h.2]; rfl
end
mutual
theorem leaf_lay : ∀ d : D, leaf false d = true → d.canLay0 = true
  | .none, _ => by rw [PyData.canLay0]
  | .bool _, _ => by rw [PyData.canLay0]
  | .int i, h => by rw [PyData.canLay0]
  | .str x, h => by
    rw [leaf, Bool.and_eq_true] at h
    rw [Bool.and_eq_true] at h
    rw [PyData.canLay0]; exact h.1.1
  | .list xs, h => by rw [leaf] at h; rw [PyData.canLay0]; exact leafA_lay xs h
  | .tuple xs, h => by rw [leaf] at h; rw [PyData.canLay0]; exact leafA_lay xs h
  | .dict _, h => by rw [leaf] at h; cases h
theorem leafA_lay : ∀ xs : List D, leafA false xs = true → PyData.canLayAll0 xs = true
  | [], _ => by rw [PyData.canLayAll0]
  | x :: xs, h => by
    rw [leafA, Bool.and_eq_true] at h
    rw [PyData.canLayAll0, leaf_lay x h.1, leafA_lay xs h.2]; rfl
end
theorem leafA_iff {b : Bool} : ∀ {xs : List D}, leafA b xs = true ↔ ∀ x ∈ xs, leaf b x = true
  | [] => by simp [leafA]
  | x :: xs => by rw [leafA, Bool.and_eq_true, leafA_iff (xs := xs)]; simp
/-- small data: so much in it, so deep -/
structure Ok (b : Bool) (w k : Nat) (d : D) : Prop where
  leaf : leaf b d = true
  bulk : d.bulk ≤ w
  depth : d.depth ≤ k
theorem Ok.mono {b : Bool} {w w' k k' : Nat} {d : D} (h : Ok b w k d) (hw : w ≤ w') (hk : k ≤ k') : Ok b w' k' d := ⟨h.leaf, Nat.le_trans h.bulk hw, Nat.le_trans h.depth hk⟩
theorem bulkAll_le {w : Nat} : ∀ {xs : List D}, (∀ x ∈ xs, x.bulk ≤ w) → PyData.bulkAll xs ≤ xs.length * (w + 1)
  | [], _ => by rw [PyData.bulkAll]; simp
  | x :: xs, h => by
    have h1 := h x List.mem_cons_self
    have h2 := bulkAll_le (xs := xs) fun y hy => h y (List.mem_cons_of_mem _ hy)
    rw [PyData.bulkAll, List.length_cons, Nat.succ_mul]
    omega
theorem depthAll_le {k : Nat} : ∀ {xs : List D}, (∀ x ∈ xs, x.depth ≤ k) → PyData.depthAll xs ≤ k
  | [], _ => by rw [PyData.depthAll]; omega
  | x :: xs, h => by
    have h1 := h x List.mem_cons_self
    have h2 := depthAll_le (xs := xs) fun y hy => h y (List.mem_cons_of_mem _ hy)
    rw [PyData.depthAll]
    omega
theorem Ok.list {b : Bool} {w k n : Nat} {xs : List D} (h : ∀ x ∈ xs, Ok b w k x) (hn : xs.length ≤ n) : Ok b (n * (w + 1)) (k + 1) (.list xs) := by
  refine ⟨by rw [Kz.leaf]; exact leafA_iff.mpr fun x hx => (h x hx).leaf, ?_, ?_⟩
  · rw [PyData.bulk]
    exact Nat.le_trans (bulkAll_le fun x hx => (h x hx).bulk) (Nat.mul_le_mul_right _ hn)
  · have := depthAll_le fun x hx => (h x hx).depth
    rw [PyData.depth]; omega
theorem Ok.tuple {b : Bool} {w k n : Nat} {xs : List D} (h : ∀ x ∈ xs, Ok b w k x) (hn : xs.length ≤ n) : Ok b (n * (w + 1)) (k + 1) (.tuple xs) := by
  refine ⟨by rw [Kz.leaf]; exact leafA_iff.mpr fun x hx => (h x hx).leaf, ?_, ?_⟩
  · rw [PyData.bulk]
    exact Nat.le_trans (bulkAll_le fun x hx => (h x hx).bulk) (Nat.mul_le_mul_right _ hn)
  · have := depthAll_le fun x hx => (h x hx).depth
    rw [PyData.depth]; omega
theorem Ok.int {b : Bool} {w k : Nat} {i : Int} (h : i.natAbs < 10 ^ 60) : Ok b w k (.int i) := ⟨by rw [Kz.leaf]; exact decide_eq_true h, by rw [PyData.bulk]; omega, by rw [PyData.depth]; omega⟩
theorem Ok.none {b : Bool} {w k : Nat} : Ok b w k .none := ⟨by rw [Kz.leaf], by rw [PyData.bulk]; omega, by rw [PyData.depth]; omega⟩
theorem Ok.bool {b : Bool} {w k : Nat} {t : Bool} : Ok b w k (.bool t) := ⟨by rw [Kz.leaf], by rw [PyData.bulk]; omega, by rw [PyData.depth]; omega⟩
theorem bulk_ge {x : D} : ∀ {xs : List D}, x ∈ xs → x.bulk + 1 ≤ PyData.bulkAll xs
  | [], h => by simp at h
  | y :: xs, h => by
    rw [PyData.bulkAll]
    rcases List.mem_cons.mp h with rfl | h
    · omega
    · have := bulk_ge h; omega
theorem depth_ge {x : D} : ∀ {xs : List D}, x ∈ xs → x.depth ≤ PyData.depthAll xs
  | [], h => by simp at h
  | y :: xs, h => by
    rw [PyData.depthAll]
    rcases List.mem_cons.mp h with rfl | h
    · omega
    · have := depth_ge h; omega
theorem len_bulk : ∀ {xs : List D}, xs.length ≤ PyData.bulkAll xs
  | [] => by simp
  | x :: xs => by
    have := len_bulk (xs := xs)
    rw [PyData.bulkAll, List.length_cons]; omega
theorem Ok.of_list {b : Bool} {w k : Nat} {xs : List D} (h : Ok b w (k + 1) (.list xs)) : xs.length ≤ w ∧ ∀ x ∈ xs, Ok b w k x := by
  have h1 := h.leaf; have h2 := h.bulk; have h3 := h.depth
  rw [Kz.leaf] at h1; rw [PyData.bulk] at h2; rw [PyData.depth] at h3
  exact ⟨Nat.le_trans len_bulk h2, fun x hx => ⟨leafA_iff.mp h1 x hx, by have := bulk_ge hx; omega, by have := depth_ge hx; omega⟩⟩
theorem Ok.of_tuple {b : Bool} {w k : Nat} {xs : List D} (h : Ok b w (k + 1) (.tuple xs)) : xs.length ≤ w ∧ ∀ x ∈ xs, Ok b w k x := by
  have h1 := h.leaf; have h2 := h.bulk; have h3 := h.depth
  rw [Kz.leaf] at h1; rw [PyData.bulk] at h2; rw [PyData.depth] at h3
  exact ⟨Nat.le_trans len_bulk h2, fun x hx => ⟨leafA_iff.mp h1 x hx, by have := bulk_ge hx; omega, by have := depth_ge hx; omega⟩⟩
theorem Ok.repr {b : Bool} {w k : Nat} {d : D} (h : Ok b w k d) (hw : w ≤ 200000) (hk : k ≤ 30) : reprOk d = true := by
  unfold reprOk
  have h1 := PyData.shown_le_bulk 64 (by omega) d (leaf_short d h.leaf)
  have h2 := h.bulk
  have h3 := h.depth
  have e : (64 + 2) * d.bulk + 64 ≤ sizeLine := by rw [sizeLine_eq]; omega
  rw [leaf_show d h.leaf, leaf_dicts d h.leaf, decide_eq_true (Nat.le_trans h1 e), decide_eq_true (show d.depth ≤ 32 by omega)]
  rfl
/-- the text of small data is a text -/
theorem sOk_app {x y : Str} (h : PyData.strOk x = true) (h2 : PyData.strOk y = true) : PyData.strOk (x ++ y) = true := by
  unfold PyData.strOk at *
  show (x.cps ++ y.cps).all _ = true
  rw [Array.all_append, h, h2]; rfl
theorem sOk_of (s : String) : PyData.strOk (Str.ofString s) = true := by
  rw [Str.ofString_eq_toList]
  unfold PyData.strOk
  show ((s.toList.map Char.toNat).toArray).all _ = true
  rw [List.all_toArray, List.all_eq_true]
  intro c hc
  obtain ⟨a, _, rfl⟩ := List.mem_map.mp hc
  have := a.valid
  simp only [decide_eq_true_eq]
  have h2 : a.toNat < 1114112 := by
    rcases this with h | h
    · show a.val.toNat < _
      have : a.val.toNat < 0xd800 := h
      omega
    · exact h.2
  exact h2
theorem sOk_from : ∀ (ts : List Str) (k : Nat) (acc : Str), PyData.strOk acc = true → (∀ t ∈ ts, PyData.strOk t = true) → PyData.strOk (textFrom k acc ts) = true
  | [], k, acc, h, _ => h
  | t :: ts, k, acc, h, ht => by
    rw [textFrom]
    refine sOk_from ts (k + 1) _ (sOk_app (sOk_app h ?_) (ht t List.mem_cons_self)) fun t' q => ht t' (List.mem_cons_of_mem _ q)
    split <;> exact sOk_of _
theorem sOk_join {sep : Str} (hs : PyData.strOk sep = true) : ∀ (ts : List Str), (∀ t ∈ ts, PyData.strOk t = true) → PyData.strOk (Str.join sep ts) = true
  | [], _ => by rw [Str.join]; simp [PyData.strOk, Str.empty]
  | [x], h => by rw [Str.join]; exact h x List.mem_cons_self
  | x :: y :: r, h => by
    rw [Str.join]
    · exact sOk_app (sOk_app (h x List.mem_cons_self) hs) (sOk_join hs (y :: r) fun t q => h t (List.mem_cons_of_mem _ q))
    · intro q; cases q
mutual
theorem leaf_sOk {b : Bool} : ∀ d : D, leaf b d = true → PyData.strOk d.shown = true
  | .none, _ => by rw [PyData.shown]; exact sOk_of _
  | .bool b, _ => by
    rw [PyData.shown]
    split <;> exact sOk_of _
  | .int i, _ => by rw [PyData.shown]; exact sOk_of _
  | .str x, h => by
    rw [leaf, Bool.and_eq_true, Bool.and_eq_true] at h
    rw [PyData.shown]; exact h.1.2
  | .list xs, h => by
    rw [leaf] at h
    rw [PyData.shown]
    unfold listText
    exact sOk_app (sOk_from _ _ _ (sOk_of _) (leafA_sOk xs h)) (sOk_of _)
  | .tuple xs, h => by
    rw [leaf] at h
    rw [PyData.shown]
    unfold tupleText
    refine sOk_app (sOk_app (sOk_of _) (sOk_join (sOk_of _) _ (leafA_sOk xs h))) ?_
    split <;> exact sOk_of _
  | .dict kvs, h => by
    rw [leaf, Bool.and_eq_true, List.isEmpty_iff] at h
    rw [h.2, PyData.shown, PyData.shownKv]
    unfold dictText
    exact sOk_app (sOk_app (sOk_of _) (sOk_join (sOk_of _) _ fun t q => nomatch q)) (sOk_of _)
theorem leafA_sOk {b : Bool} : ∀ xs : List D, leafA b xs = true → ∀ t ∈ PyData.shownAll xs, PyData.strOk t = true
  | [], _, t, ht => by rw [PyData.shownAll] at ht; cases ht
  | x :: xs, h, t, ht => by
    rw [leafA, Bool.and_eq_true] at h
    rw [PyData.shownAll] at ht
    rcases List.mem_cons.mp ht with rfl | ht
    · exact leaf_sOk x h.1
    · exact leafA_sOk xs h.2 t ht
end
theorem Ok.dict {w k : Nat} : Ok true w (k + 1) (.dict []) := ⟨rfl, by show PyData.bulkKv [] ≤ w; rw [PyData.bulkKv]; omega, by show PyData.depthKv [] + 1 ≤ _; rw [PyData.depthKv]; omega⟩
mutual
theorem leaf_up : ∀ d : D, leaf false d = true → leaf true d = true
  | .none, _ => rfl
  | .bool _, _ => rfl
  | .int i, h => by rw [leaf] at h ⊢; exact h
  | .str x, h => by rw [leaf] at h ⊢; exact h
  | .list xs, h => by rw [leaf] at h ⊢; exact leafA_up xs h
  | .tuple xs, h => by rw [leaf] at h ⊢; exact leafA_up xs h
  | .dict _, h => by rw [leaf] at h; cases h
theorem leafA_up : ∀ xs : List D, leafA false xs = true → leafA true xs = true
  | [], _ => rfl
  | x :: xs, h => by
    rw [leafA, Bool.and_eq_true] at h
    rw [leafA, leaf_up x h.1, leafA_up xs h.2]; rfl
end
theorem Ok.up {b : Bool} {w k : Nat} {d : D} (h : Ok false w k d) : Ok true w k d := ⟨leaf_up d h.leaf, h.bulk, h.depth⟩
theorem b1_repr {d : D} (h : reprOk d = true) : b1v .repr d = some (0, .str d.shown) := by
  show (if reprOk d = true then _ else _) = _
  rw [if_pos h]
theorem c_neS (x : Str) (h : PyData.strOk x = true) : cmpop .ne (.str x) (.str x) = some false := by
  show (if SeqAt.shaped (.str x) && SeqAt.shaped (.str x) then some (!PyData.eqv (.str x) (.str x)) else none) = _
  have e : SeqAt.shaped (.str x) = true := by
    unfold SeqAt.shaped
    simp [PyData.canLay0, PyData.depth, h]
  rw [e, PyData.eqv]
  simp
end Kz

set_option Elab.async false
set_option linter.all false
set_option maxRecDepth 100000
set_option maxHeartbeats 1000000
namespace Kt
/-! ### lengths of walks (plain Lean, no program) -/
abbrev W := Nat → Nat → Option Nat
inductive Wl (S : Nat → Prop) (w : W) : List Nat → Nat → Prop
  | base {s : Nat} : S s → Wl S w [s] 0
  | step {u v l c : Nat} {p : List Nat} : Wl S w (u :: p) l → w u v = some c → Wl S w (v :: u :: p) (l + c)
/-- lists without repetition of small numbers are short -/
theorem nodup_short : ∀ (n : Nat) (l : List Nat), l.Nodup → (∀ x ∈ l, x < n) → l.length ≤ n
  | 0, l, _, h => by
    cases l with
    | nil => simp
    | cons x r => exact absurd (h x List.mem_cons_self) (by omega)
  | n + 1, l, hd, h => by
    have h1 := nodup_short n (l.erase n) (hd.erase n) fun x hx => by
      have h2 := h x (List.mem_of_mem_erase hx)
      have : x ≠ n := fun e => by
        subst e
        exact (List.Nodup.not_mem_erase hd) hx
      omega
    have := List.length_erase_le (a := n) (l := l)
    by_cases q : n ∈ l
    · have := List.length_erase_of_mem q
      omega
    · have := List.erase_of_not_mem q
      rw [this] at h1
      omega
section
variable {S : Nat → Prop} {w : W} {n : Nat}
/-- the part of a walk up to a house on it -/
theorem Wl.cut : ∀ {p : List Nat} {l : Nat}, Wl S w p l → ∀ v ∈ p, ∃ (q : List Nat) (l' : Nat), Wl S w (v :: q) l' ∧ l' ≤ l ∧ (v :: q) <:+ p
  | _, _, .base h, v, hv => by
    rw [List.mem_singleton] at hv
    subst hv
    exact ⟨[], 0, .base h, Nat.le_refl _, List.suffix_refl _⟩
  | _, _, .step (p := p) h e, v, hv => by
    rcases List.mem_cons.mp hv with rfl | hv
    · exact ⟨_, _, .step h e, Nat.le_refl _, List.suffix_refl _⟩
    · obtain ⟨q, l', h1, h2, h3⟩ := h.cut v hv
      exact ⟨q, l', h1, by omega, h3.trans (List.suffix_cons _ _)⟩
theorem Wl.short : ∀ {v : Nat} {p : List Nat} {l : Nat}, Wl S w (v :: p) l → ∃ (q : List Nat) (l' : Nat), Wl S w (v :: q) l' ∧ l' ≤ l ∧ (v :: q).Nodup
  | v, _, _, .base h => ⟨[], 0, .base h, Nat.le_refl _, by simp⟩
  | v, _, _, .step (u := u) (c := c) h e => by
    obtain ⟨q, l', h1, h2, h3⟩ := h.short
    by_cases m : v ∈ u :: q
    · obtain ⟨r, l2, g1, g2, g3⟩ := h1.cut v m
      exact ⟨r, l2, g1, by omega, List.Sublist.nodup g3.sublist h3⟩
    · exact ⟨u :: q, l' + c, .step h1 e, by omega, List.nodup_cons.mpr ⟨m, h3⟩⟩
theorem Wl.lt (hS : ∀ s, S s → s < n) (hw : ∀ u v c, w u v = some c → u < n ∧ v < n) : ∀ {p : List Nat} {l : Nat}, Wl S w p l → ∀ x ∈ p, x < n
  | _, _, .base h, x, hx => by rw [List.mem_singleton] at hx; subst hx; exact hS _ h
  | _, _, .step h e, x, hx => by
    rcases List.mem_cons.mp hx with rfl | hx
    · exact (hw _ _ _ e).2
    · exact h.lt hS hw x hx
/-- the least length -/
def IsD (S : Nat → Prop) (w : W) (v : Nat) : Option Nat → Prop
  | none => ∀ p l, ¬ Wl S w (v :: p) l
  | some d => (∃ p, Wl S w (v :: p) d) ∧ ∀ p l, Wl S w (v :: p) l → d ≤ l
theorem IsD.unique {v : Nat} {a b : Option Nat} (ha : IsD S w v a) (hb : IsD S w v b) : a = b := by
  cases a with
  | none =>
    cases b with
    | none => rfl
    | some b => obtain ⟨p, h⟩ := hb.1; exact absurd h (ha p b)
  | some a =>
    obtain ⟨p, h⟩ := ha.1
    cases b with
    | none => exact absurd h (hb p a)
    | some b =>
      obtain ⟨q, g⟩ := hb.1
      have := ha.2 q b g
      have := hb.2 p a h
      congr 1
      omega
/-! going through the directions again and again -/
def at_ (f : List (Option Nat)) (v : Nat) : Option Nat := f.getD v none
theorem at_set {f : List (Option Nat)} {v x : Nat} {o : Option Nat} : at_ (f.set v o) x = if x = v ∧ v < f.length then o else at_ f x := by
  unfold at_
  rw [List.getD_eq_getElem?_getD, List.getD_eq_getElem?_getD, List.getElem?_set]
  by_cases h : v = x
  · subst h
    by_cases q : v < f.length
    · simp [q]
    · rw [if_pos rfl, if_neg q, if_neg (fun z => q z.2), List.getElem?_eq_none (by omega)]
  · rw [if_neg h, if_neg (fun z => h z.1.symm)]
def relax (w : W) (f : List (Option Nat)) (u v : Nat) : List (Option Nat) := match at_ f u with
  | none => f
  | some a => match w u v with
    | none => f
    | some k => match at_ f v with
      | none => f.set v (some (a + k))
      | some b => if a + k < b then f.set v (some (a + k)) else f
def turn (w : W) (ds : List (Nat × Nat)) (f : List (Option Nat)) : List (Option Nat) := ds.foldl (fun f p => relax w f p.1 p.2) f
def turns (w : W) (ds : List (Nat × Nat)) : Nat → List (Option Nat) → List (Option Nat)
  | 0, f => f
  | t + 1, f => turns w ds t (turn w ds f)
theorem relax_len {f : List (Option Nat)} {u v : Nat} : (relax w f u v).length = f.length := by
  unfold relax
  split
  · rfl
  · split
    · rfl
    · split
      · simp
      · split <;> simp
theorem turn_len : ∀ (ds : List (Nat × Nat)) (f : List (Option Nat)), (turn w ds f).length = f.length
  | [], _ => rfl
  | p :: ds, f => by
    show (turn w ds (relax w f p.1 p.2)).length = _
    rw [turn_len ds, relax_len]
theorem turns_len {ds : List (Nat × Nat)} : ∀ (t : Nat) (f : List (Option Nat)), (turns w ds t f).length = f.length
  | 0, _ => rfl
  | t + 1, f => by rw [turns, turns_len t, turn_len]
/-- what is found may only get less -/
def Les (f g : List (Option Nat)) : Prop := ∀ x d, at_ f x = some d → ∃ d', d' ≤ d ∧ at_ g x = some d'
theorem Les.refl (f : List (Option Nat)) : Les f f := fun x d h => ⟨d, Nat.le_refl _, h⟩
theorem Les.trans {f g h : List (Option Nat)} (a : Les f g) (b : Les g h) : Les f h := fun x d e => by
  obtain ⟨d1, h1, e1⟩ := a x d e
  obtain ⟨d2, h2, e2⟩ := b x d1 e1
  exact ⟨d2, by omega, e2⟩
theorem relax_les {f : List (Option Nat)} {u v : Nat} : Les f (relax w f u v) := by
  intro x d h
  unfold relax
  split
  · exact ⟨d, Nat.le_refl _, h⟩
  · rename_i a ha
    split
    · exact ⟨d, Nat.le_refl _, h⟩
    · rename_i k hk
      split
      · rename_i hv
        rw [at_set]
        by_cases q : x = v ∧ v < f.length
        · rw [q.1, hv] at h; cases h
        · rw [if_neg q]; exact ⟨d, Nat.le_refl _, h⟩
      · rename_i b hv
        split
        · rename_i hlt
          rw [at_set]
          by_cases q : x = v ∧ v < f.length
          · rw [q.1, hv] at h
            cases h
            rw [if_pos q]
            exact ⟨_, by omega, rfl⟩
          · rw [if_neg q]; exact ⟨d, Nat.le_refl _, h⟩
        · exact ⟨d, Nat.le_refl _, h⟩
theorem relax_done {f : List (Option Nat)} {u v a k : Nat} (ha : at_ f u = some a) (hk : w u v = some k) (hv : v < f.length) : ∃ d, d ≤ a + k ∧ at_ (relax w f u v) v = some d := by
  unfold relax
  rw [ha]
  simp only
  rw [hk]
  simp only
  cases q : at_ f v with
  | none =>
    simp only
    rw [at_set, if_pos ⟨rfl, hv⟩]
    exact ⟨_, Nat.le_refl _, rfl⟩
  | some b =>
    simp only
    by_cases c : a + k < b
    · rw [if_pos c, at_set, if_pos ⟨rfl, hv⟩]
      exact ⟨_, Nat.le_refl _, rfl⟩
    · rw [if_neg c, q]
      exact ⟨b, by omega, rfl⟩
theorem turn_les : ∀ (ds : List (Nat × Nat)) (f : List (Option Nat)), Les f (turn w ds f)
  | [], f => .refl f
  | p :: ds, f => relax_les.trans (turn_les ds _)
theorem turn_done : ∀ (ds : List (Nat × Nat)) (f : List (Option Nat)) {u v a k : Nat}, (u, v) ∈ ds → at_ f u = some a → w u v = some k → v < f.length → ∃ d, d ≤ a + k ∧ at_ (turn w ds f) v = some d
  | [], _, _, _, _, _, h, _, _, _ => by cases h
  | p :: ds, f, u, v, a, k, h, ha, hk, hv => by
    rcases List.mem_cons.mp h with rfl | h
    · obtain ⟨d, h1, h2⟩ := relax_done ha hk hv
      obtain ⟨d', h3, h4⟩ := turn_les (w := w) ds _ v d h2
      exact ⟨d', by omega, h4⟩
    · obtain ⟨a', h1, h2⟩ := relax_les (w := w) (u := p.1) (v := p.2) u a ha
      obtain ⟨d, h3, h4⟩ := turn_done ds (relax w f p.1 p.2) h h2 hk (by rw [relax_len]; exact hv)
      exact ⟨d, by omega, h4⟩
/-- what is found is the length of a walk -/
def Snd (S : Nat → Prop) (w : W) (f : List (Option Nat)) : Prop := ∀ v d, at_ f v = some d → ∃ p, Wl S w (v :: p) d
theorem relax_snd {f : List (Option Nat)} {u v : Nat} (h : Snd S w f) : Snd S w (relax w f u v) := by
  have new : ∀ a k, at_ f u = some a → w u v = some k → Snd S w (f.set v (some (a + k))) := fun a k ha hk x d e => by
    rw [at_set] at e
    by_cases q : x = v ∧ v < f.length
    · rw [if_pos q] at e
      cases e
      obtain ⟨p, hp⟩ := h u a ha
      rw [q.1]
      exact ⟨_, .step hp hk⟩
    · rw [if_neg q] at e
      exact h x d e
  unfold relax
  split
  · exact h
  · rename_i a ha
    split
    · exact h
    · rename_i k hk
      split
      · exact new a k ha hk
      · split
        · exact new a k ha hk
        · exact h
theorem turn_snd : ∀ (ds : List (Nat × Nat)) (f : List (Option Nat)), Snd S w f → Snd S w (turn w ds f)
  | [], f, h => h
  | p :: ds, f, h => turn_snd ds _ (relax_snd h)
theorem turns_snd {ds : List (Nat × Nat)} : ∀ (t : Nat) (f : List (Option Nat)), Snd S w f → Snd S w (turns w ds t f)
  | 0, f, h => h
  | t + 1, f, h => turns_snd t _ (turn_snd ds f h)
/-- walks of so many steps are seen -/
def See (S : Nat → Prop) (w : W) (t : Nat) (f : List (Option Nat)) : Prop := ∀ v p l, Wl S w (v :: p) l → p.length ≤ t → ∃ d, d ≤ l ∧ at_ f v = some d
theorem turn_see {ds : List (Nat × Nat)} {f : List (Option Nat)} {t : Nat} (hd : ∀ u v c, w u v = some c → (u, v) ∈ ds) (hn : ∀ u v c, w u v = some c → v < f.length) (h : See S w t f) : See S w (t + 1) (turn w ds f) := by
  intro v p l hw hl
  cases hw with
  | base s =>
    obtain ⟨d, h1, h2⟩ := h v [] 0 (.base s) (Nat.zero_le _)
    obtain ⟨d', h3, h4⟩ := turn_les (w := w) ds f v d h2
    exact ⟨d', by omega, h4⟩
  | step hw e =>
    rename_i u l c p
    obtain ⟨d, h1, h2⟩ := h u p l hw (by simpa using hl)
    obtain ⟨d', h3, h4⟩ := turn_done ds f (hd _ _ _ e) h2 e (hn _ _ _ e)
    exact ⟨d', by omega, h4⟩
theorem turns_see {ds : List (Nat × Nat)} (hd : ∀ u v c, w u v = some c → (u, v) ∈ ds) : ∀ (t k : Nat) (f : List (Option Nat)), (∀ u v c, w u v = some c → v < f.length) → See S w k f → See S w (k + t) (turns w ds t f)
  | 0, k, f, _, h => h
  | t + 1, k, f, hn, h => by
    rw [turns, show k + (t + 1) = k + 1 + t by omega]
    exact turns_see hd t (k + 1) _ (fun u v c e => by rw [turn_len]; exact hn u v c e) (turn_see hd hn h)
def start (S : Nat → Bool) (n : Nat) : List (Option Nat) := (List.range n).map fun h => if S h = true then some 0 else none
theorem start_at {S : Nat → Bool} {n v : Nat} : at_ (start S n) v = if v < n ∧ S v = true then some 0 else none := by
  unfold at_ start
  rw [List.getD_eq_getElem?_getD, List.getElem?_map]
  by_cases h : v < n
  · rw [List.getElem?_range h]
    simp [h]
  · rw [List.getElem?_eq_none (by simpa using h)]
    simp [h]
/-- so many turns as there are houses find the least lengths -/
theorem lengths_ok {S : Nat → Bool} {n t : Nat} {ds : List (Nat × Nat)} (hS : ∀ s, S s = true → s < n) (hd : ∀ u v c, w u v = some c → (u, v) ∈ ds) (hw : ∀ u v c, w u v = some c → u < n ∧ v < n) (ht : n ≤ t) (v : Nat) : IsD (fun s => S s = true) w v (at_ (turns w ds t (start S n)) v) := by
  have snd : Snd (fun s => S s = true) w (turns w ds t (start S n)) := turns_snd t _ fun v d e => by
    rw [start_at] at e
    by_cases q : v < n ∧ S v = true
    · rw [if_pos q] at e; cases e; exact ⟨[], .base q.2⟩
    · rw [if_neg q] at e; cases e
  have see : See (fun s => S s = true) w (0 + t) (turns w ds t (start S n)) := turns_see hd t 0 _ (fun u v c e => by unfold start; simp; exact (hw u v c e).2) fun v p l hw' hl => by
    cases hw' with
    | base s => exact ⟨0, Nat.le_refl _, by rw [start_at, if_pos ⟨hS _ s, s⟩]⟩
    | step => simp at hl
  have all : ∀ p l, Wl (fun s => S s = true) w (v :: p) l → ∃ d, d ≤ l ∧ at_ (turns w ds t (start S n)) v = some d := fun p l h => by
    obtain ⟨q, l', h1, h2, h3⟩ := h.short
    have := nodup_short n (v :: q) h3 (h1.lt hS hw)
    obtain ⟨d, g1, g2⟩ := see v q l' h1 (by simp at this; omega)
    exact ⟨d, by omega, g2⟩
  cases q : at_ (turns w ds t (start S n)) v with
  | none =>
    intro p l h
    obtain ⟨d, _, e⟩ := all p l h
    rw [q] at e; cases e
  | some d =>
    refine ⟨snd v d q, fun p l h => ?_⟩
    obtain ⟨d', h1, e⟩ := all p l h
    rw [q] at e; cases e; exact h1
theorem lengths_eq {S : Nat → Bool} {n t t' : Nat} {ds ds' : List (Nat × Nat)} (hS : ∀ s, S s = true → s < n) (hd : ∀ u v c, w u v = some c → (u, v) ∈ ds) (hd' : ∀ u v c, w u v = some c → (u, v) ∈ ds') (hw : ∀ u v c, w u v = some c → u < n ∧ v < n) (ht : n ≤ t) (ht' : n ≤ t') : turns w ds t (start S n) = turns w ds' t' (start S n) := by
  apply List.ext_getElem?
  intro v
  have h := IsD.unique (lengths_ok hS hd hw ht v) (lengths_ok hS hd' hw ht' v)
  unfold at_ at h
  rw [List.getD_eq_getElem?_getD, List.getD_eq_getElem?_getD] at h
  have l1 : (turns w ds t (start S n)).length = n := by rw [turns_len]; simp [start]
  have l2 : (turns w ds' t' (start S n)).length = n := by rw [turns_len]; simp [start]
  by_cases q : v < n
  · rw [List.getElem?_eq_getElem (by omega), List.getElem?_eq_getElem (by omega)] at h ⊢
    simp only [Option.getD_some] at h
    rw [h]
  · rw [List.getElem?_eq_none (by omega), List.getElem?_eq_none (by omega)]
end
end Kt

set_option Elab.async false
set_option linter.all false
set_option maxRecDepth 100000
set_option maxHeartbeats 1000000
namespace Kt
/-! ### stuck houses, and how often houses work -/
/-- going on without keys ahead -/
inductive Rc (w : W) : Nat → Nat → Prop
  | refl (x : Nat) : Rc w x x
  | step {x u v : Nat} : Rc w x u → w u v = some 0 → Rc w x v
/-- on a ring without keys ahead -/
def Zr (w : W) (x : Nat) : Prop := ∃ u, Rc w x u ∧ w u x = some 0
def zero (w : W) : W := fun u v => match w u v with
  | some 0 => some 0
  | _ => none
section
variable {w : W} {n : Nat}
theorem zero_eq {u v c : Nat} : zero w u v = some c ↔ c = 0 ∧ w u v = some 0 := by
  unfold zero
  constructor
  · intro h
    split at h
    · rename_i q; cases h; exact ⟨rfl, q⟩
    · cases h
  · rintro ⟨rfl, h⟩
    rw [h]
    rfl
theorem Rc.trans {x y z : Nat} (h : Rc w x y) : Rc w y z → Rc w x z
  | .refl _ => h
  | .step g e => .step (h.trans g) e
theorem Rc.lt (hw : ∀ u v c, w u v = some c → u < n ∧ v < n) {x y : Nat} (h : Rc w x y) (hx : x < n) : y < n := by
  cases h with
  | refl => exact hx
  | step _ e => exact (hw _ _ _ e).2
theorem Zr.lt (hw : ∀ u v c, w u v = some c → u < n ∧ v < n) {x : Nat} (h : Zr w x) : x < n := by
  obtain ⟨u, _, e⟩ := h
  exact (hw _ _ _ e).2
/-- a ring, seen from one of its houses -/
theorem zr_iff {h : Nat} : Zr w h ↔ ∃ p l, Wl (fun x => w h x = some 0) (zero w) (h :: p) l := by
  have fwd : ∀ {u : Nat}, Rc w h u → u = h ∨ ∃ p l, Wl (fun x => w h x = some 0) (zero w) (u :: p) l := fun {u} r => by
    induction r with
    | refl => exact .inl rfl
    | step r e ih =>
      rcases ih with rfl | ⟨p, l, ih⟩
      · exact .inr ⟨[], 0, .base e⟩
      · exact .inr ⟨_, _, .step ih (zero_eq.mpr ⟨rfl, e⟩)⟩
  have bwd : ∀ {p : List Nat} {l : Nat}, Wl (fun x => w h x = some 0) (zero w) p l → ∀ v q, p = v :: q → ∃ u, Rc w h u ∧ w u v = some 0 := fun {p l} r => by
    induction r with
    | base s =>
      intro v q e
      cases e
      exact ⟨h, .refl h, s⟩
    | step r e ih =>
      intro v q e'
      cases e'
      obtain ⟨u, h1, h2⟩ := ih _ _ rfl
      exact ⟨_, .step h1 h2, (zero_eq.mp e).2⟩
  constructor
  · rintro ⟨u, r, e⟩
    rcases fwd r with rfl | ⟨p, l, g⟩
    · exact ⟨[], 0, .base e⟩
    · exact ⟨_, _, .step g (zero_eq.mpr ⟨rfl, e⟩)⟩
  · rintro ⟨p, l, g⟩
    exact bwd g _ _ rfl
theorem on_path : ∀ {p : List Nat} {l : Nat}, Wl (fun _ => True) (zero w) p l → ∀ v q, p = v :: q → ∀ y ∈ p, Rc w y v := fun {p l} r => by
  induction r with
  | base s =>
    intro v q e y hy
    cases e
    rw [List.mem_singleton] at hy
    subst hy
    exact .refl _
  | step r e ih =>
    intro v q e' y hy
    cases e'
    rcases List.mem_cons.mp hy with rfl | hy
    · exact .refl _
    · exact .step (ih _ _ rfl y hy) (zero_eq.mp e).2
theorem rep_path : ∀ {p : List Nat} {l : Nat}, Wl (fun _ => True) (zero w) p l → ¬ p.Nodup → ∀ v q, p = v :: q → ∃ x, Zr w x ∧ Rc w x v := fun {p l} r => by
  induction r with
  | base s => intro h; exact absurd (by simp) h
  | step r e ih =>
    rename_i u v l c p
    intro hn v' q e'
    cases e'
    by_cases hd : (u :: p).Nodup
    · have hm : v ∈ u :: p := by
        by_cases m : v ∈ u :: p
        · exact m
        · exact absurd (List.nodup_cons.mpr ⟨m, hd⟩) hn
      exact ⟨v, ⟨u, on_path r _ _ rfl v hm, (zero_eq.mp e).2⟩, .refl v⟩
    · obtain ⟨x, h1, h2⟩ := ih hd _ _ rfl
      exact ⟨x, h1, .step h2 (zero_eq.mp e).2⟩
/-- houses each of which waits for another one of them -/
theorem back_zr {C : Nat → Prop} (hw : ∀ u v c, w u v = some c → u < n ∧ v < n) (hC : ∀ v, C v → ∃ u, C u ∧ w u v = some 0) {v : Nat} (hv : C v) : ∃ x, Zr w x ∧ Rc w x v := by
  have long : ∀ k v, C v → ∃ p l, Wl (fun _ => True) (zero w) (v :: p) l ∧ p.length = k := fun k => by
    induction k with
    | zero => intro v _; exact ⟨[], 0, .base trivial, rfl⟩
    | succ k ih =>
      intro v hv
      obtain ⟨u, hu, e⟩ := hC v hv
      obtain ⟨p, l, h1, h2⟩ := ih u hu
      exact ⟨_, _, .step h1 (zero_eq.mpr ⟨rfl, e⟩), by simp [h2]⟩
  obtain ⟨p, l, h1, h2⟩ := long (n + 1) v hv
  refine rep_path h1 (fun hd => ?_) _ _ rfl
  have lt : ∀ x ∈ v :: p, x < n := fun x hx => by
    have hvn : v < n := by
      obtain ⟨u, _, e⟩ := hC v hv
      exact (hw _ _ _ e).2
    rcases List.mem_cons.mp hx with rfl | hx
    · exact hvn
    · have := on_path h1 _ _ rfl x (List.mem_cons_of_mem _ hx)
      cases this with
      | refl => exact hvn
      | step r e =>
        -- the first step from x
        have first : ∀ {a b : Nat}, Rc w a b → a = b ∨ ∃ c, w a c = some 0 := fun {a b} r => by
          induction r with
          | refl => exact .inl rfl
          | step r e ih =>
            rcases ih with rfl | ih
            · exact .inr ⟨_, e⟩
            · exact .inr ih
        rcases first r with rfl | ⟨c, e⟩
        · exact (hw _ _ _ e).1
        · exact (hw _ _ _ e).1
  have := nodup_short n _ hd lt
  simp at this
  omega
/-! works -/
def bump (x : Nat → Nat) (h : Nat) : Nat → Nat := fun v => if v = h then x v + 1 else x v
/-- lists of works that are done without the resting ones -/
inductive Rch (w : W) (R : Nat → Prop) : (Nat → Nat) → Prop
  | zero : Rch w R fun _ => 0
  | step {x : Nat → Nat} {h : Nat} : Rch w R x → ¬ R h → (∀ u c, w u h = some c → x h < c + x u) → Rch w R (bump x h)
variable {R : Nat → Prop}
theorem Rch.inv (hw : ∀ u v c, w u v = some c → u ≠ v) : ∀ {x : Nat → Nat}, Rch w R x → ∀ u v c, w u v = some c → x v ≤ c + x u
  | _, .zero, u, v, c, _ => by simp
  | _, .step (x := x) (h := h) r hR hc, u, v, c, e => by
    have ih := r.inv hw u v c e
    have ne := hw u v c e
    unfold bump
    by_cases q : v = h
    · subst q
      have := hc u c e
      rw [if_pos rfl, if_neg ne]
      omega
    · rw [if_neg q]
      split <;> omega
theorem Rch.rest : ∀ {x : Nat → Nat}, Rch w R x → ∀ v, R v → x v = 0
  | _, .zero, _, _ => rfl
  | _, .step (h := h) r hR _, v, hv => by
    have ih := r.rest v hv
    unfold bump
    by_cases q : v = h
    · subst q; exact absurd hv hR
    · rw [if_neg q]; exact ih
theorem Rch.back {C : Nat → Prop} (hC : ∀ v, C v → ∃ u, C u ∧ w u v = some 0) : ∀ {x : Nat → Nat}, Rch w R x → ∀ v, C v → x v = 0
  | _, .zero, _, _ => rfl
  | _, .step (h := h) r hR hc, v, hv => by
    have ih := r.back hC v hv
    unfold bump
    by_cases q : v = h
    · subst q
      obtain ⟨u, hu, e⟩ := hC v hv
      have := hc u 0 e
      rw [ih, r.back hC u hu] at this
      omega
    · rw [if_neg q]; exact ih
theorem Rc.snoc_zr {x : Nat} (h : Zr w x) : ∃ C : Nat → Prop, C x ∧ ∀ v, C v → ∃ u, C u ∧ w u v = some 0 := by
  obtain ⟨u, r, e⟩ := h
  refine ⟨fun y => Rc w x y, .refl x, fun v hv => ?_⟩
  cases hv with
  | refl => exact ⟨u, r, e⟩
  | step r' e' => exact ⟨_, r', e'⟩
theorem Rch.zr {x : Nat → Nat} (h : Rch w R x) {v : Nat} (hv : Zr w v) : x v = 0 := by
  obtain ⟨C, h1, h2⟩ := Rc.snoc_zr hv
  exact h.back h2 v h1
/-- no house works more often than keys lie ahead on a way from an end -/
theorem chip_le (hw : ∀ u v c, w u v = some c → u ≠ v) {x : Nat → Nat} (h : Rch w R x) : ∀ {p : List Nat} {l : Nat}, Wl (fun s => R s ∨ Zr w s) w p l → ∀ v q, p = v :: q → x v ≤ l := fun {p l} r => by
  induction r with
  | base s =>
    intro v q e
    cases e
    rcases s with s | s
    · rw [h.rest _ s]; omega
    · rw [h.zr s]; omega
  | step r e ih =>
    intro v q e'
    cases e'
    have := ih _ _ rfl
    have := h.inv hw _ _ _ e
    omega
/-- where nobody can work any more each house has worked just so often -/
theorem chip_end (hw : ∀ u v c, w u v = some c → u ≠ v) (hn : ∀ u v c, w u v = some c → u < n ∧ v < n) {x : Nat → Nat} (h : Rch w R x) (hs : ∀ v, v < n → ¬ R v → ∃ u c, w u v = some c ∧ c + x u ≤ x v) : ∀ v, v < n → IsD (fun s => R s ∨ Zr w s) w v (some (x v)) := by
  have key : ∀ v, v < n → ∃ p, Wl (fun s => R s ∨ Zr w s) w (v :: p) (x v) := fun v hv => by
    by_cases q : ∃ p, Wl (fun s => R s ∨ Zr w s) w (v :: p) (x v)
    · exact q
    · -- the bad houses with the fewest works
      have bad : ∀ m v, v < n → x v = m → ¬ (∃ p, Wl (fun s => R s ∨ Zr w s) w (v :: p) (x v)) → False := fun m => by
        induction m using Nat.strongRecOn with
        | ind m ih =>
          intro v hv hm hb
          have pred : ∀ v, (v < n ∧ x v = m ∧ ¬ ∃ p, Wl (fun s => R s ∨ Zr w s) w (v :: p) (x v)) → ∃ u, (u < n ∧ x u = m ∧ ¬ ∃ p, Wl (fun s => R s ∨ Zr w s) w (u :: p) (x u)) ∧ w u v = some 0 := fun v ⟨hv, hm, hb⟩ => by
            have nR : ¬ R v := fun r => hb ⟨[], by rw [h.rest v r]; exact .base (.inl r)⟩
            obtain ⟨u, c, e, hc⟩ := hs v hv nR
            have hi := h.inv hw u v c e
            have ex : x v = x u + c := by omega
            have ub : ¬ ∃ p, Wl (fun s => R s ∨ Zr w s) w (u :: p) (x u) := fun ⟨p, hp⟩ => hb ⟨_, by rw [ex]; exact .step hp e⟩
            by_cases c0 : c = 0
            · subst c0
              exact ⟨u, ⟨(hn u v 0 e).1, by omega, ub⟩, e⟩
            · exact (ih (x u) (by omega) u (hn u v c e).1 rfl ub).elim
          obtain ⟨z, hz, hr⟩ := back_zr (C := fun v => v < n ∧ x v = m ∧ ¬ ∃ p, Wl (fun s => R s ∨ Zr w s) w (v :: p) (x v)) hn pred ⟨hv, hm, hb⟩
          have hx0 : x v = 0 := by
            refine h.back (C := fun v => v < n ∧ x v = m ∧ ¬ ∃ p, Wl (fun s => R s ∨ Zr w s) w (v :: p) (x v)) pred v ⟨hv, hm, hb⟩
          refine hb ?_
          rw [hx0]
          have go : ∀ {y : Nat}, Rc w z y → ∃ p, Wl (fun s => R s ∨ Zr w s) w (y :: p) 0 := fun {y} r => by
            induction r with
            | refl => exact ⟨[], .base (.inr hz)⟩
            | step r e ih =>
              obtain ⟨p, hp⟩ := ih
              exact ⟨_, .step hp e⟩
          exact go hr
      exact (bad (x v) v hv rfl q).elim
  intro v hv
  exact ⟨key v hv, fun p l r => chip_le hw h r _ _ rfl⟩
end
end Kt

set_option Elab.async false
set_option linter.all false
set_option maxRecDepth 100000
set_option maxHeartbeats 1000000
namespace Kt
theorem nodup_sub : ∀ (l hs : List Nat), l.Nodup → (∀ x ∈ l, x ∈ hs) → l.length ≤ hs.length
  | [], hs, _, _ => Nat.zero_le _
  | x :: l, hs, hd, h => by
    rw [List.nodup_cons] at hd
    have hx := h x List.mem_cons_self
    have := nodup_sub l (hs.erase x) hd.2 fun y hy => by
      have hne : y ≠ x := fun e => hd.1 (e ▸ hy)
      exact (List.mem_erase_of_ne hne).mpr (h y (List.mem_cons_of_mem _ hy))
    have e := List.length_erase_of_mem hx
    have pos := List.length_pos_of_mem hx
    rw [List.length_cons]
    omega
section
variable {w : W}
/-- going on from a house as long as there are new ones -/
theorem clo {h T : Nat} {R : Nat → List Nat} {hs : List Nat} (h0 : ∀ v, v ∈ R 0 ↔ w h v = some 0) (hr : ∀ t v, v ∈ R (t + 1) ↔ v ∈ R t ∨ ∃ u ∈ R t, w u v = some 0) (all : ∀ u v c, w u v = some c → v ∈ hs) (hT : hs.length ≤ T) : h ∈ R T ↔ Zr w h := by
  have inv : ∀ t v, v ∈ R t ↔ ∃ p l, Wl (fun x => w h x = some 0) (zero w) (v :: p) l ∧ p.length ≤ t := fun t => by
    induction t with
    | zero =>
      intro v
      rw [h0]
      constructor
      · intro e; exact ⟨[], 0, .base e, Nat.le_refl _⟩
      · rintro ⟨p, l, hp, hl⟩
        cases hp with
        | base e => exact e
        | step => simp at hl
    | succ t ih =>
      intro v
      rw [hr]
      constructor
      · rintro (hv | ⟨u, hu, e⟩)
        · obtain ⟨p, l, h1, h2⟩ := (ih v).mp hv
          exact ⟨p, l, h1, by omega⟩
        · obtain ⟨p, l, h1, h2⟩ := (ih u).mp hu
          exact ⟨_, _, .step h1 (zero_eq.mpr ⟨rfl, e⟩), by simp; omega⟩
      · rintro ⟨p, l, h1, h2⟩
        cases h1 with
        | base e => exact .inl ((ih v).mpr ⟨[], 0, .base e, Nat.zero_le _⟩)
        | step h1 e => exact .inr ⟨_, (ih _).mpr ⟨_, _, h1, by simp at h2; omega⟩, (zero_eq.mp e).2⟩
  rw [inv, zr_iff]
  constructor
  · rintro ⟨p, l, h1, _⟩
    exact ⟨p, l, h1⟩
  · rintro ⟨p, l, h1⟩
    obtain ⟨q, l', h2, _, h3⟩ := h1.short
    have mem : ∀ {p : List Nat} {l : Nat}, Wl (fun x => w h x = some 0) (zero w) p l → ∀ x ∈ p, x ∈ hs := fun {p l} r => by
      induction r with
      | base e =>
        intro x hx
        rw [List.mem_singleton] at hx
        subst hx
        exact all _ _ _ e
      | step r e ih =>
        intro x hx
        rcases List.mem_cons.mp hx with rfl | hx
        · exact all _ _ _ (zero_eq.mp e).2
        · exact ih x hx
    have := nodup_sub _ hs h3 (mem h2)
    exact ⟨q, l', h2, by simp at this; omega⟩
end
end Kt

set_option Elab.async false
set_option linter.all false
set_option maxRecDepth 100000
set_option maxHeartbeats 1000000
namespace Kt
section
variable {w : W} {n : Nat} {R : Nat → Prop}
/-- where nobody of a closed part can work any more each house of it has worked just so often -/
theorem chip_endC (P : Nat → Prop) (hP : ∀ u v c, w u v = some c → P v → P u) (hw : ∀ u v c, w u v = some c → u ≠ v) (hn : ∀ u v c, w u v = some c → u < n ∧ v < n) {x : Nat → Nat} (h : Rch w R x) (hs : ∀ v, v < n → P v → ¬ R v → ∃ u c, w u v = some c ∧ c + x u ≤ x v) : ∀ v, v < n → P v → IsD (fun s => R s ∨ Zr w s) w v (some (x v)) := by
  have key : ∀ v, v < n → P v → ∃ p, Wl (fun s => R s ∨ Zr w s) w (v :: p) (x v) := fun v hv hp0 => by
    by_cases q : ∃ p, Wl (fun s => R s ∨ Zr w s) w (v :: p) (x v)
    · exact q
    · have bad : ∀ m v, v < n → P v → x v = m → ¬ (∃ p, Wl (fun s => R s ∨ Zr w s) w (v :: p) (x v)) → False := fun m => by
        induction m using Nat.strongRecOn with
        | ind m ih =>
          intro v hv hp hm hb
          have pred : ∀ v, (v < n ∧ P v ∧ x v = m ∧ ¬ ∃ p, Wl (fun s => R s ∨ Zr w s) w (v :: p) (x v)) → ∃ u, (u < n ∧ P u ∧ x u = m ∧ ¬ ∃ p, Wl (fun s => R s ∨ Zr w s) w (u :: p) (x u)) ∧ w u v = some 0 := fun v ⟨hv, hp, hm, hb⟩ => by
            have nR : ¬ R v := fun r => hb ⟨[], by rw [h.rest v r]; exact .base (.inl r)⟩
            obtain ⟨u, c, e, hc⟩ := hs v hv hp nR
            have hi := h.inv hw u v c e
            have ex : x v = x u + c := by omega
            have ub : ¬ ∃ p, Wl (fun s => R s ∨ Zr w s) w (u :: p) (x u) := fun ⟨p, hp⟩ => hb ⟨_, by rw [ex]; exact .step hp e⟩
            by_cases c0 : c = 0
            · subst c0
              exact ⟨u, ⟨(hn u v 0 e).1, hP _ _ _ e hp, by omega, ub⟩, e⟩
            · exact (ih (x u) (by omega) u (hn u v c e).1 (hP _ _ _ e hp) rfl ub).elim
          obtain ⟨z, hz, hr⟩ := back_zr (C := fun v => v < n ∧ P v ∧ x v = m ∧ ¬ ∃ p, Wl (fun s => R s ∨ Zr w s) w (v :: p) (x v)) hn pred ⟨hv, hp, hm, hb⟩
          have hx0 : x v = 0 := h.back (C := fun v => v < n ∧ P v ∧ x v = m ∧ ¬ ∃ p, Wl (fun s => R s ∨ Zr w s) w (v :: p) (x v)) pred v ⟨hv, hp, hm, hb⟩
          refine hb ?_
          rw [hx0]
          have go : ∀ {y : Nat}, Rc w z y → ∃ p, Wl (fun s => R s ∨ Zr w s) w (y :: p) 0 := fun {y} r => by
            induction r with
            | refl => exact ⟨[], .base (.inr hz)⟩
            | step r e ih =>
              obtain ⟨p, hp⟩ := ih
              exact ⟨_, .step hp e⟩
          exact go hr
      exact (bad (x v) v hv hp0 rfl q).elim
  intro v hv hp
  exact ⟨key v hv hp, fun p l r => chip_le hw h r _ _ rfl⟩
/-- who can work and does not rest -/
def Abl (w : W) (R : Nat → Prop) (n : Nat) (x : Nat → Nat) (v : Nat) : Prop := v < n ∧ ¬ R v ∧ ∀ u c, w u v = some c → x v < c + x u
/-- all who can work once -/
structure Rnd (w : W) (R : Nat → Prop) (n : Nat) (x x' : Nat → Nat) : Prop where
  up : ∀ v, Abl w R n x v → x' v = x v + 1
  st : ∀ v, ¬ Abl w R n x v → x' v = x v
theorem Rnd.le {x x' : Nat → Nat} (h : Rnd w R n x x') (v : Nat) : x v ≤ x' v := by
  by_cases a : Abl w R n x v
  · rw [h.up v a]; omega
  · rw [h.st v a]; omega
/-- chains of roads without keys, behind works -/
inductive Zc (w : W) (x : Nat → Nat) : List Nat → Prop
  | one (v : Nat) : Zc w x [v]
  | cons {u v c : Nat} {p : List Nat} : Zc w x (u :: p) → w u v = some c → c + x u ≤ x v → Zc w x (v :: u :: p)
def Inv (w : W) (x : Nat → Nat) : Prop := ∀ u v c, w u v = some c → x v ≤ c + x u
theorem Zc.back {x x' : Nat → Nat} (hi : Inv w x) (hr : Rnd w R n x x') : ∀ {p : List Nat} {v : Nat}, Zc w x' (v :: p) → x' v = x v → Zc w x (v :: p) ∧ ∀ a ∈ v :: p, x' a = x a
  | [], v, _, e => ⟨.one v, fun a ha => by rw [List.mem_singleton] at ha; subst ha; exact e⟩
  | u :: p, v, h, e => by
    cases h with
    | cons h e1 e2 =>
      have i := hi _ _ _ e1
      have eu : x' u = x u := by
        by_cases a : Abl w R n x u
        · have := hr.up u a; omega
        · exact hr.st u a
      obtain ⟨h1, h2⟩ := h.back hi hr eu
      exact ⟨.cons h1 e1 (by omega), fun a ha => by
        rcases List.mem_cons.mp ha with rfl | ha
        · exact e
        · exact h2 a ha⟩
theorem Zc.more {x : Nat → Nat} {u c : Nat} : ∀ {p : List Nat} {v a : Nat}, Zc w x (v :: p) → (v :: p).getLast? = some a → w u a = some c → c + x u ≤ x a → Zc w x (v :: (p ++ [u]))
  | [], v, a, _, h, e1, e2 => by
    cases h
    exact .cons (.one u) e1 e2
  | b :: p, v, a, z, h, e1, e2 => by
    cases z with
    | cons z q1 q2 => exact .cons (z.more (by rw [List.getLast?_cons_cons] at h; exact h) e1 e2) q1 q2
theorem Zc.wl {x : Nat → Nat} : ∀ {p : List Nat} {v a : Nat}, Zc w x (v :: p) → a ∈ v :: p → ∃ q l, Wl (fun s => s = a) w (v :: q) l ∧ l + x a ≤ x v ∧ (a ∈ p → q ≠ [])
  | [], v, a, _, h => by
    rw [List.mem_singleton] at h
    subst h
    exact ⟨[], 0, .base rfl, by omega, fun q => by cases q⟩
  | u :: p, v, a, z, h => by
    cases z with
    | cons z q1 q2 =>
      by_cases m : a ∈ u :: p
      · obtain ⟨q, l, h1, h2, _⟩ := z.wl m
        exact ⟨u :: q, _, .step h1 q1, by omega, fun _ => by simp⟩
      · rcases List.mem_cons.mp h with rfl | h
        · exact ⟨[], 0, .base rfl, by omega, fun q => absurd q m⟩
        · exact absurd h m
theorem Wl.rc {a : Nat} : ∀ {p : List Nat} {v l : Nat}, Wl (fun s => s = a) w (v :: p) l → l = 0 → Rc w a v
  | _, _, _, .base e, _ => by subst e; exact .refl _
  | _, _, _, .step (c := c) (l := l) h e, z => by
    obtain rfl : c = 0 := by omega
    exact .step (h.rc (by omega)) e
theorem Zc.ring {x : Nat → Nat} : ∀ {p : List Nat} {v : Nat}, Zc w x (v :: p) → ¬ (v :: p).Nodup → ∃ a ∈ v :: p, Zr w a
  | [], v, _, h => absurd (by simp) h
  | u :: p, v, z, h => by
    by_cases m : v ∈ u :: p
    · obtain ⟨q, l, h1, h2, h3⟩ := z.wl (a := v) List.mem_cons_self
      have h3 := h3 m
      refine ⟨v, List.mem_cons_self, ?_⟩
      cases h1 with
      | base => exact absurd rfl h3
      | @step u' _ l' c _ h1 e =>
        obtain rfl : c = 0 := by omega
        exact ⟨_, h1.rc (by omega), e⟩
    · cases z with
      | cons z q1 q2 =>
        have : ¬ (u :: p).Nodup := fun k => h (List.nodup_cons.mpr ⟨m, k⟩)
        obtain ⟨a, ha, hz⟩ := z.ring this
        exact ⟨a, List.mem_cons_of_mem _ ha, hz⟩
/-- no way from an end leads to it -/
def Live (w : W) (R : Nat → Prop) (v : Nat) : Prop := IsD (fun s => R s ∨ Zr w s) w v none
theorem Live.pred {u v c : Nat} (h : Live w R v) (e : w u v = some c) : Live w R u := fun p l q => h _ _ (.step q e)
theorem Live.nR {v : Nat} (h : Live w R v) : ¬ R v := fun r => h [] 0 (.base (.inl r))
theorem Live.nZ {v : Nat} (h : Live w R v) : ¬ Zr w v := fun r => h [] 0 (.base (.inr r))
theorem Zc.live (hn : ∀ u v c, w u v = some c → u < n ∧ v < n) {x : Nat → Nat} : ∀ {p : List Nat} {v : Nat}, Zc w x (v :: p) → v < n → Live w R v → ∀ a ∈ v :: p, a < n ∧ Live w R a
  | [], v, _, h, h2, a, ha => by rw [List.mem_singleton] at ha; subst ha; exact ⟨h, h2⟩
  | u :: p, v, z, h, h2, a, ha => by
    cases z with
    | cons z q1 q2 =>
      rcases List.mem_cons.mp ha with rfl | ha
      · exact ⟨h, h2⟩
      · exact z.live hn (hn _ _ _ q1).1 (h2.pred q1) a ha
variable {X : Nat → Nat → Nat}
theorem mono_X (hr : ∀ t, Rnd w R n (X t) (X (t + 1))) (v : Nat) : ∀ k t, X t v ≤ X (t + k) v
  | 0, t => Nat.le_refl _
  | k + 1, t => Nat.le_trans (mono_X hr v k t) ((hr (t + k)).le v)
theorem idle_chain (hn : ∀ u v c, w u v = some c → u < n ∧ v < n) (hi : ∀ t, Inv w (X t)) (hr : ∀ t, Rnd w R n (X t) (X (t + 1))) : ∀ (k t v : Nat), v < n → Live w R v → X (t + k) v = X t v → ∃ p, Zc w (X t) (v :: p) ∧ p.length = k
  | 0, t, v, _, _, _ => ⟨[], .one v, rfl⟩
  | k + 1, t, v, hv, hl, e => by
    have m1 := mono_X hr v 1 t
    have m2 := mono_X hr v k (t + 1)
    rw [show t + 1 + k = t + (k + 1) by omega] at m2
    have e1 : X (t + 1) v = X t v := by omega
    obtain ⟨p, h1, h2⟩ := idle_chain hn hi hr k (t + 1) v hv hl (by rw [show t + 1 + k = t + (k + 1) by omega]; omega)
    obtain ⟨h3, h4⟩ := h1.back (hi t) (hr t) e1
    obtain ⟨a, ha⟩ : ∃ a, (v :: p).getLast? = some a := ⟨_, List.getLast?_eq_some_getLast (by simp)⟩
    have ham : a ∈ v :: p := List.mem_of_getLast? ha
    obtain ⟨an, al⟩ := h3.live hn hv hl a ham
    have na : ¬ Abl w R n (X t) a := fun z => by
      have := (hr t).up a z
      have := h4 a ham
      omega
    have : ∃ u c, w u a = some c ∧ c + X t u ≤ X t a := by
      by_cases q : ∃ u c, w u a = some c ∧ c + X t u ≤ X t a
      · exact q
      · exact absurd ⟨an, al.nR, fun u c e => by
          rcases Nat.lt_or_ge (X t a) (c + X t u) with z | z
          · exact z
          · exact absurd ⟨u, c, e, z⟩ q⟩ na
    obtain ⟨u, c, e1, e2⟩ := this
    exact ⟨p ++ [u], h3.more ha e1 e2, by simp [h2]⟩
/-- where no end is, each house works in so many rounds as there are houses -/
theorem live_one (hn : ∀ u v c, w u v = some c → u < n ∧ v < n) (hi : ∀ t, Inv w (X t)) (hr : ∀ t, Rnd w R n (X t) (X (t + 1))) {t v : Nat} (hv : v < n) (hl : Live w R v) : X t v + 1 ≤ X (t + n) v := by
  have m := mono_X hr v n t
  by_cases e : X (t + n) v = X t v
  · obtain ⟨p, h1, h2⟩ := idle_chain hn hi hr n t v hv hl e
    have h3 := h1.live hn hv hl
    by_cases d : (v :: p).Nodup
    · have := nodup_short n _ d fun a ha => (h3 a ha).1
      simp [h2] at this
      omega
    · obtain ⟨a, ha, hz⟩ := h1.ring d
      exact absurd hz (h3 a ha).2.nZ
  · omega
theorem live_many (hn : ∀ u v c, w u v = some c → u < n ∧ v < n) (hi : ∀ t, Inv w (X t)) (hr : ∀ t, Rnd w R n (X t) (X (t + 1))) {v : Nat} (hv : v < n) (hl : Live w R v) : ∀ m, X 0 v + m ≤ X (n * m) v
  | 0 => Nat.le_refl _
  | m + 1 => by
    have h1 := live_many hn hi hr hv hl m
    have h2 := live_one hn hi hr (t := n * m) hv hl
    rw [Nat.mul_succ]
    omega
theorem live_able (hn : ∀ u v c, w u v = some c → u < n ∧ v < n) (hi : ∀ t, Inv w (X t)) (hr : ∀ t, Rnd w R n (X t) (X (t + 1))) {v : Nat} (hv : v < n) (hl : Live w R v) (t : Nat) : ∃ u, Abl w R n (X t) u := by
  by_cases q : ∃ u, Abl w R n (X t) u
  · exact q
  · have all : ∀ k, X (t + k) = X t := fun k => by
      induction k with
      | zero => rfl
      | succ k ih =>
        funext u
        have : ¬ Abl w R n (X (t + k)) u := fun z => q ⟨u, by rw [ih] at z; exact z⟩
        have := (hr (t + k)).st u this
        rw [show t + (k + 1) = t + k + 1 by omega, this, ih]
    have := live_one hn hi hr (t := t) hv hl
    rw [all n] at this
    omega
/-! houses with a number -/
def sumF (F : List Nat) (x : Nat → Nat) : Nat := (F.map x).sum
theorem sumF_le {F : List Nat} {x y : Nat → Nat} (h : ∀ v ∈ F, x v ≤ y v) : sumF F x ≤ sumF F y := by
  unfold sumF
  induction F with
  | nil => exact Nat.le_refl _
  | cons a F ih =>
    rw [List.map_cons, List.map_cons, List.sum_cons, List.sum_cons]
    have := h a List.mem_cons_self
    have := ih fun v hv => h v (List.mem_cons_of_mem _ hv)
    omega
theorem sumF_lt {F : List Nat} {x y : Nat → Nat} (h : ∀ v ∈ F, x v ≤ y v) {a : Nat} (ha : a ∈ F) (hl : x a + 1 ≤ y a) : sumF F x + 1 ≤ sumF F y := by
  unfold sumF
  induction F with
  | nil => cases ha
  | cons b F ih =>
    rw [List.map_cons, List.map_cons, List.sum_cons, List.sum_cons]
    have h1 := h b List.mem_cons_self
    have h2 := sumF_le (F := F) fun v hv => h v (List.mem_cons_of_mem _ hv)
    unfold sumF at h2
    rcases List.mem_cons.mp ha with rfl | ha
    · omega
    · have := ih (fun v hv => h v (List.mem_cons_of_mem _ hv)) ha
      omega
theorem sumF_bd {F : List Nat} {x : Nat → Nat} {K : Nat} (h : ∀ v ∈ F, x v ≤ K) : sumF F x ≤ F.length * K := by
  unfold sumF
  induction F with
  | nil => simp
  | cons b F ih =>
    rw [List.map_cons, List.sum_cons, List.length_cons, Nat.succ_mul]
    have h1 := h b List.mem_cons_self
    have := ih fun v hv => h v (List.mem_cons_of_mem _ hv)
    omega
/-- behind so many rounds nobody who has a number can work -/
theorem fin_end (F : List Nat) (hF : ∀ u v c, w u v = some c → v ∈ F → u ∈ F) (hr : ∀ t, Rnd w R n (X t) (X (t + 1))) {K : Nat} (hK : ∀ t, ∀ v ∈ F, X t v ≤ K) {T : Nat} (hT : F.length * K < T) : ∀ v ∈ F, ¬ Abl w R n (X T) v := by
  have stay : ∀ t, (∀ v ∈ F, ¬ Abl w R n (X t) v) → ∀ v ∈ F, ¬ Abl w R n (X (t + 1)) v := fun t h v hv a => by
    have eq : ∀ u ∈ F, X (t + 1) u = X t u := fun u hu => (hr t).st u (h u hu)
    refine h v hv ⟨a.1, a.2.1, fun u c e => ?_⟩
    have := a.2.2 u c e
    rw [eq v hv, eq u (hF _ _ _ e hv)] at this
    exact this
  have alt : ∀ t, (∀ v ∈ F, ¬ Abl w R n (X t) v) ∨ t + 1 ≤ sumF F (X (t + 1)) := fun t => by
    induction t with
    | zero =>
      by_cases q : ∃ v ∈ F, Abl w R n (X 0) v
      · obtain ⟨v, hv, a⟩ := q
        refine .inr ?_
        have := sumF_lt (x := X 0) (y := X 1) (fun v _ => (hr 0).le v) hv (by rw [(hr 0).up v a]; exact Nat.le_refl _)
        show 0 + 1 ≤ sumF F (X 1)
        omega
      · exact .inl fun v hv a => q ⟨v, hv, a⟩
    | succ t ih =>
      rcases ih with h | h
      · exact .inl (stay t h)
      · by_cases q : ∃ v ∈ F, Abl w R n (X (t + 1)) v
        · obtain ⟨v, hv, a⟩ := q
          refine .inr ?_
          have := sumF_lt (x := X (t + 1)) (y := X (t + 1 + 1)) (fun v _ => (hr (t + 1)).le v) hv (by rw [(hr (t + 1)).up v a]; exact Nat.le_refl _)
          omega
        · exact .inl fun v hv a => q ⟨v, hv, a⟩
  rcases alt T with h | h
  · exact h
  · have := sumF_bd (hK (T + 1))
    omega
end
end Kt

set_option Elab.async false
set_option linter.all false
set_option maxRecDepth 100000
set_option maxHeartbeats 1000000
namespace Kt
section
variable {w : W} {R R' : Nat → Prop}
theorem Rch.weak (hR : ∀ v, R' v → R v) : ∀ {x : Nat → Nat}, Rch w R x → Rch w R' x
  | _, .zero => .zero
  | _, .step r h1 h2 => .step (r.weak hR) (fun z => h1 (hR _ z)) h2
/-- by how much one is ahead of another at the most -/
theorem chip_lead (hw : ∀ u v c, w u v = some c → u ≠ v) {x : Nat → Nat} (h : Rch w R x) {a : Nat} : ∀ {p : List Nat} {l : Nat}, Wl (fun s => s = a ∨ Zr w s) w p l → ∀ v q, p = v :: q → x v ≤ l + x a := fun {p l} r => by
  induction r with
  | base s =>
    intro v q e
    cases e
    rcases s with rfl | s
    · omega
    · rw [h.zr s]; omega
  | step r e ih =>
    intro v q e'
    cases e'
    have := ih _ _ rfl
    have := h.inv hw _ _ _ e
    omega
/-- all leads between come, too -/
theorem Rch.between {a b : Nat} : ∀ {x : Nat → Nat}, Rch w R x → ∀ t : Int, (0 ≤ t ∧ t ≤ (x b : Int) - x a) ∨ ((x b : Int) - x a ≤ t ∧ t ≤ 0) → ∃ z, Rch w R z ∧ (z b : Int) - z a = t
  | _, .zero, t, h => ⟨_, .zero, by simp at h ⊢; omega⟩
  | _, .step (x := x) (h := h) r h1 h2, t, ht => by
    by_cases q : (0 ≤ t ∧ t ≤ (x b : Int) - x a) ∨ ((x b : Int) - x a ≤ t ∧ t ≤ 0)
    · exact r.between t q
    · refine ⟨_, .step r h1 h2, ?_⟩
      unfold bump at ht ⊢
      split at ht <;> split at ht <;> simp_all <;> omega
end
end Kt

set_option Elab.async false
set_option linter.all false
set_option maxRecDepth 100000
set_option maxHeartbeats 1000000
namespace Kr
open PySem PySem.Spec PyProof.Rows L2
theorem T_is_whole : Ir.T "is_whole" = some Ir.f_is_whole := rfl
theorem md_is_whole (k : Nat) : (orc Ir.T k).modes "is_whole" = some [.sh] := orc_modes T_is_whole k
def q_is_whole (vvalue : D) : Mx Unit (Oc Unit Empty) := rtM (andM (b1M 0 .isInt (pv vvalue)) (notM (b1M 0 .isBool (pv vvalue))))
theorem sh_is_whole (k : Nat) (vvalue : D) : Sh 0 (callK Ir.T (k + 1) "is_whole" [vvalue]) (runM (q_is_whole vvalue)) :=
  sh_fn (k := k + 0) (π := fun s => [.v 0 vvalue]) T_is_whole ⟨rfl, Nat.le_of_ble_eq_true rfl⟩ rfl (fun _ => rfl) (.ret (.of (.and (.b1 (.var0 fun _ => rfl)) (.not (.b1 (.var0 fun _ => rfl))))) rfl fun _ => ⟨.nil, Nat.zero_le _⟩)
def F_is_whole : List D → Rs D
  | [vvalue] => runM (q_is_whole vvalue)
  | _ => .st
theorem shL_is_whole (k : Nat) : ∀ ds : List D, Sh 0 (callK Ir.T (k + 1) "is_whole" ds) (F_is_whole ds)
  | [vvalue] => sh_is_whole k vvalue
  | [] => trivial
  | _ :: _ :: _ => trivial
theorem T_is_between : Ir.T "is_between" = some Ir.f_is_between := rfl
theorem md_is_between (k : Nat) : (orc Ir.T k).modes "is_between" = some [.sh, .sh, .sh] := orc_modes T_is_between k
def q_is_between (vvalue vlow vhigh : D) : Mx Unit (Oc Unit Empty) := iteM (tsM (notM (callM F_is_whole [(pv vvalue)]))) (rtM (pv (.bool false))) (rtM (andM (orM (cmpM .is (pv vlow) (pv .none)) (cmpM .ge (pv vvalue) (pv vlow))) (orM (cmpM .is (pv vhigh) (pv .none)) (cmpM .le (pv vvalue) (pv vhigh)))))
theorem sh_is_between (k : Nat) (vvalue vlow vhigh : D) : Sh 0 (callK Ir.T (k + 2) "is_between" [vvalue, vlow, vhigh]) (runM (q_is_between vvalue vlow vhigh)) :=
  sh_fn (k := k + 1) (π := fun s => [.v 0 vvalue, .v 0 vlow, .v 0 vhigh]) T_is_between ⟨rfl, Nat.le_of_ble_eq_true rfl⟩ rfl (fun _ => rfl) (.ifs (.of (.not (.call (md_is_whole _) (shL_is_whole (k + 0)) (.cons (.of (.var0 fun _ => rfl)) .nil)))) (.ret (.of .cst) rfl fun _ => ⟨.nil, Nat.zero_le _⟩) (.ret (.of (.and (.or (.cmp (.var0 fun _ => rfl) .cst) (.cmp (.var0 fun _ => rfl) (.var0 fun _ => rfl))) (.or (.cmp (.var0 fun _ => rfl) .cst) (.cmp (.var0 fun _ => rfl) (.var0 fun _ => rfl))))) rfl fun _ => ⟨.nil, Nat.zero_le _⟩))
def F_is_between : List D → Rs D
  | [vvalue, vlow, vhigh] => runM (q_is_between vvalue vlow vhigh)
  | _ => .st
theorem shL_is_between (k : Nat) : ∀ ds : List D, Sh 0 (callK Ir.T (k + 2) "is_between" ds) (F_is_between ds)
  | [vvalue, vlow, vhigh] => sh_is_between k vvalue vlow vhigh
  | [] => trivial
  | [_] => trivial
  | [_, _] => trivial
  | _ :: _ :: _ :: _ :: _ => trivial
theorem T_is_road : Ir.T "is_road" = some Ir.f_is_road := rfl
theorem md_is_road (k : Nat) : (orc Ir.T k).modes "is_road" = some [.sh, .sh] := orc_modes T_is_road k
def q_is_road (vhouses vvalue : D) : Mx Unit (Oc Unit Empty) := iteM (tsM (orM (notM (b1M 0 .isTuple (pv vvalue))) (orM (cmpM .ne (b1M 0 .len (pv vvalue)) (pv (.int 3))) (notM (callM F_is_between [(ixM (pv vvalue) (pv (.int 0))), (pv (.int 0)), (opM 0 .sub (pv vhouses) (pv (.int 1)))]))))) (rtM (pv (.bool false))) (rtM (andM (callM F_is_between [(ixM (pv vvalue) (pv (.int 1))), (opM 0 .add (ixM (pv vvalue) (pv (.int 0))) (pv (.int 1))), (opM 0 .sub (pv vhouses) (pv (.int 1)))]) (callM F_is_between [(ixM (pv vvalue) (pv (.int 2))), (pv (.int 1)), (pv .none)])))
theorem sh_is_road (k : Nat) (vhouses vvalue : D) : Sh 0 (callK Ir.T (k + 3) "is_road" [vhouses, vvalue]) (runM (q_is_road vhouses vvalue)) :=
  sh_fn (k := k + 2) (π := fun s => [.v 0 vhouses, .v 0 vvalue]) T_is_road ⟨rfl, Nat.le_of_ble_eq_true rfl⟩ rfl (fun _ => rfl) (.ifs (.of (.or (.not (.b1 (.var0 fun _ => rfl))) (.or (.cmp (.b1 (.var0 fun _ => rfl)) .cst) (.not (.call (md_is_between _) (shL_is_between (k + 0)) (.cons (.of (.ix (.var0 fun _ => rfl) .cst)) (.cons (.of .cst) (.cons (.of (.op (.var0 fun _ => rfl) .cst)) .nil)))))))) (.ret (.of .cst) rfl fun _ => ⟨.nil, Nat.zero_le _⟩) (.ret (.of (.and (.call (md_is_between _) (shL_is_between (k + 0)) (.cons (.of (.ix (.var0 fun _ => rfl) .cst)) (.cons (.of (.op (.ix (.var0 fun _ => rfl) .cst) .cst)) (.cons (.of (.op (.var0 fun _ => rfl) .cst)) .nil)))) (.call (md_is_between _) (shL_is_between (k + 0)) (.cons (.of (.ix (.var0 fun _ => rfl) .cst)) (.cons (.of .cst) (.cons (.of .cst) .nil)))))) rfl fun _ => ⟨.nil, Nat.zero_le _⟩))
def F_is_road : List D → Rs D
  | [vhouses, vvalue] => runM (q_is_road vhouses vvalue)
  | _ => .st
theorem shL_is_road (k : Nat) : ∀ ds : List D, Sh 0 (callK Ir.T (k + 3) "is_road" ds) (F_is_road ds)
  | [vhouses, vvalue] => sh_is_road k vhouses vvalue
  | [] => trivial
  | [_] => trivial
  | _ :: _ :: _ :: _ => trivial
theorem T_is_net : Ir.T "is_net" = some Ir.f_is_net := rfl
theorem md_is_net (k : Nat) : (orc Ir.T k).modes "is_net" = some [.sh] := orc_modes T_is_net k
def q_is_net (vvalue : D) : Mx Unit (Oc Unit Empty) := iteM (tsM (orM (notM (b1M 0 .isTuple (pv vvalue))) (orM (cmpM .ne (b1M 0 .len (pv vvalue)) (pv (.int 2))) (notM (callM F_is_between [(ixM (pv vvalue) (pv (.int 0))), (pv (.int 1)), (pv .none)]))))) (rtM (pv (.bool false))) (bd (pv vvalue) fun r1 => un2 r1 fun vhouses vroads => iteM (tsM (orM (notM (b1M 0 .isList (pv vroads))) (cmpM .ne (compM (seqI (pv vroads)) fun r2 => keepM (notM (callM F_is_road [(pv vhouses), (pv r2)])) (pv r2)) (lstM [])))) (rtM (pv (.bool false))) (rtM (cmpM .eq (compM (rg2 (pv (.int 1)) (b1M 0 .len (pv vroads))) fun r3 => keepM (cmpM .ge (slM 0 (ixM (pv vroads) (opM 0 .sub (pv r3) (pv (.int 1)))) noP (exP (pv (.int 2)))) (slM 0 (ixM (pv vroads) (pv r3)) noP (exP (pv (.int 2))))) (pv r3)) (lstM []))))
theorem sh_is_net (k : Nat) (vvalue : D) : Sh 0 (callK Ir.T (k + 4) "is_net" [vvalue]) (runM (q_is_net vvalue)) :=
  sh_fn (k := k + 3) (π := fun s => [.v 0 vvalue, .any, .any, .any, .any]) T_is_net ⟨rfl, Nat.le_of_ble_eq_true rfl⟩ rfl (fun _ => rfl) (.ifs (.of (.or (.not (.b1 (.var0 fun _ => rfl))) (.or (.cmp (.b1 (.var0 fun _ => rfl)) .cst) (.not (.call (md_is_between _) (shL_is_between (k + 1)) (.cons (.of (.ix (.var0 fun _ => rfl) .cst)) (.cons (.of .cst) (.cons (.of .cst) .nil)))))))) (.ret (.of .cst) rfl fun _ => ⟨.nil, Nat.zero_le _⟩) (.unp (.of (.var0 fun _ => rfl)) fun r1 => .un2 fun vhouses vroads => .name rfl (.name rfl (.pat (π1 := fun s => [.v 0 vvalue, .v 0 vhouses, .v 0 vroads, .any, .any]) (fun _ => rfl) (.ifs (.of (.or (.not (.b1 (.var0 fun _ => rfl))) (.cmp (.n0 (.comp (.seq (.of (.var0 fun _ => rfl))) (fun _ => rfl) fun r2 => .name rfl (.keep (.not (.call (md_is_road _) (shL_is_road (k + 0)) (.cons (.of (.var0 fun _ => rfl)) (.cons (.of (.var0 fun _ => rfl)) .nil)))) (.of (.var0 fun _ => rfl)) (fun _ => rfl))) rfl Nat.one_pos) (.n0 (.lst .nil) rfl Nat.one_pos)))) (.ret (.of .cst) rfl fun _ => ⟨.nil, Nat.zero_le _⟩) (.ret (.of (.cmp (.n0 (.comp (.range2 .cst (.b1 (.var0 fun _ => rfl))) (fun _ => rfl) fun r3 => .name rfl (.keep (.cmp (.sl (.ix (.var0 fun _ => rfl) (.op (.var0 fun _ => rfl) .cst)) .no (.ex .cst)) (.sl (.ix (.var0 fun _ => rfl) (.var0 fun _ => rfl)) .no (.ex .cst))) (.of (.var0 fun _ => rfl)) (fun _ => rfl))) rfl Nat.one_pos) (.n0 (.lst .nil) rfl Nat.one_pos))) rfl fun _ => ⟨.nil, Nat.zero_le _⟩))))))
def F_is_net : List D → Rs D
  | [vvalue] => runM (q_is_net vvalue)
  | _ => .st
theorem shL_is_net (k : Nat) : ∀ ds : List D, Sh 0 (callK Ir.T (k + 4) "is_net" ds) (F_is_net ds)
  | [vvalue] => sh_is_net k vvalue
  | [] => trivial
  | _ :: _ :: _ => trivial
theorem T_check_net : Ir.T "check_net" = some Ir.f_check_net := rfl
theorem md_check_net (k : Nat) : (orc Ir.T k).modes "check_net" = some [.sh] := orc_modes T_check_net k
def q_check_net (vnet : D) : Mx Unit (Oc Unit Empty) := iteM (tsM (notM (callM F_is_net [(pv vnet)]))) (stM) (nxM ())
theorem sh_check_net (k : Nat) (vnet : D) : Sh 0 (callK Ir.T (k + 5) "check_net" [vnet]) (runM (q_check_net vnet)) :=
  sh_fn (k := k + 4) (π := fun s => [.v 0 vnet]) T_check_net ⟨rfl, Nat.le_of_ble_eq_true rfl⟩ rfl (fun _ => rfl) (.ifs (.of (.not (.call (md_is_net _) (shL_is_net (k + 0)) (.cons (.of (.var0 fun _ => rfl)) .nil)))) (.any) (.nil fun _ => ⟨.nil, Nat.zero_le _⟩))
def F_check_net : List D → Rs D
  | [vnet] => runM (q_check_net vnet)
  | _ => .st
theorem shL_check_net (k : Nat) : ∀ ds : List D, Sh 0 (callK Ir.T (k + 5) "check_net" ds) (F_check_net ds)
  | [vnet] => sh_check_net k vnet
  | [] => trivial
  | _ :: _ :: _ => trivial
theorem T_is_standing : Ir.T "is_standing" = some Ir.f_is_standing := rfl
theorem md_is_standing (k : Nat) : (orc Ir.T k).modes "is_standing" = some [.sh, .sh] := orc_modes T_is_standing k
def q_is_standing (vnet vvalue : D) : Mx Unit (Oc Unit Empty) := iteM (tsM (orM (notM (b1M 0 .isList (pv vvalue))) (cmpM .ne (b1M 0 .len (pv vvalue)) (b1M 0 .len (ixM (pv vnet) (pv (.int 1))))))) (rtM (pv (.bool false))) (rtM (cmpM .eq (compM (zpI (pv vvalue) (ixM (pv vnet) (pv (.int 1)))) fun r1 => un2 r1 fun vitem vroad => keepM (notM (callM F_is_between [(pv vitem), (pv (.int 0)), (ixM (pv vroad) (pv (.int 2)))])) (pv vitem)) (lstM [])))
theorem sh_is_standing (k : Nat) (vnet vvalue : D) : Sh 0 (callK Ir.T (k + 3) "is_standing" [vnet, vvalue]) (runM (q_is_standing vnet vvalue)) :=
  sh_fn (k := k + 2) (π := fun s => [.v 0 vnet, .v 0 vvalue, .any, .any]) T_is_standing ⟨rfl, Nat.le_of_ble_eq_true rfl⟩ rfl (fun _ => rfl) (.ifs (.of (.or (.not (.b1 (.var0 fun _ => rfl))) (.cmp (.b1 (.var0 fun _ => rfl)) (.b1 (.ix (.var0 fun _ => rfl) .cst))))) (.ret (.of .cst) rfl fun _ => ⟨.nil, Nat.zero_le _⟩) (.ret (.of (.cmp (.n0 (.comp (.zip (.of (.var0 fun _ => rfl)) (.of (.ix (.var0 fun _ => rfl) .cst))) (fun _ => rfl) fun r1 => .un2 fun vitem vroad => .name rfl (.name rfl (.keep (.not (.call (md_is_between _) (shL_is_between (k + 0)) (.cons (.of (.var0 fun _ => rfl)) (.cons (.of .cst) (.cons (.of (.ix (.var0 fun _ => rfl) .cst)) .nil))))) (.of (.var0 fun _ => rfl)) (fun _ => rfl)))) rfl Nat.one_pos) (.n0 (.lst .nil) rfl Nat.one_pos))) rfl fun _ => ⟨.nil, Nat.zero_le _⟩))
def F_is_standing : List D → Rs D
  | [vnet, vvalue] => runM (q_is_standing vnet vvalue)
  | _ => .st
theorem shL_is_standing (k : Nat) : ∀ ds : List D, Sh 0 (callK Ir.T (k + 3) "is_standing" ds) (F_is_standing ds)
  | [vnet, vvalue] => sh_is_standing k vnet vvalue
  | [] => trivial
  | [_] => trivial
  | _ :: _ :: _ :: _ => trivial
theorem T_check_standing : Ir.T "check_standing" = some Ir.f_check_standing := rfl
theorem md_check_standing (k : Nat) : (orc Ir.T k).modes "check_standing" = some [.sh, .sh] := orc_modes T_check_standing k
def q_check_standing (vnet vstanding : D) : Mx Unit (Oc Unit Empty) := bd (callM F_check_net [(pv vnet)]) fun _ => iteM (tsM (notM (callM F_is_standing [(pv vnet), (pv vstanding)]))) (stM) (nxM ())
theorem sh_check_standing (k : Nat) (vnet vstanding : D) : Sh 0 (callK Ir.T (k + 6) "check_standing" [vnet, vstanding]) (runM (q_check_standing vnet vstanding)) :=
  sh_fn (k := k + 5) (π := fun s => [.v 0 vnet, .v 0 vstanding]) T_check_standing ⟨rfl, Nat.le_of_ble_eq_true rfl⟩ rfl (fun _ => rfl) (.expr (.call (md_check_net _) (shL_check_net (k + 0)) (.cons (.of (.var0 fun _ => rfl)) .nil)) (.ifs (.of (.not (.call (md_is_standing _) (shL_is_standing (k + 2)) (.cons (.of (.var0 fun _ => rfl)) (.cons (.of (.var0 fun _ => rfl)) .nil))))) (.any) (.nil fun _ => ⟨.nil, Nat.zero_le _⟩)))
def F_check_standing : List D → Rs D
  | [vnet, vstanding] => runM (q_check_standing vnet vstanding)
  | _ => .st
theorem shL_check_standing (k : Nat) : ∀ ds : List D, Sh 0 (callK Ir.T (k + 6) "check_standing" ds) (F_check_standing ds)
  | [vnet, vstanding] => sh_check_standing k vnet vstanding
  | [] => trivial
  | [_] => trivial
  | _ :: _ :: _ :: _ => trivial
theorem T_is_house : Ir.T "is_house" = some Ir.f_is_house := rfl
theorem md_is_house (k : Nat) : (orc Ir.T k).modes "is_house" = some [.sh, .sh] := orc_modes T_is_house k
def q_is_house (vnet vvalue : D) : Mx Unit (Oc Unit Empty) := rtM (callM F_is_between [(pv vvalue), (pv (.int 0)), (opM 0 .sub (ixM (pv vnet) (pv (.int 0))) (pv (.int 1)))])
theorem sh_is_house (k : Nat) (vnet vvalue : D) : Sh 0 (callK Ir.T (k + 3) "is_house" [vnet, vvalue]) (runM (q_is_house vnet vvalue)) :=
  sh_fn (k := k + 2) (π := fun s => [.v 0 vnet, .v 0 vvalue]) T_is_house ⟨rfl, Nat.le_of_ble_eq_true rfl⟩ rfl (fun _ => rfl) (.ret (.of (.call (md_is_between _) (shL_is_between (k + 0)) (.cons (.of (.var0 fun _ => rfl)) (.cons (.of .cst) (.cons (.of (.op (.ix (.var0 fun _ => rfl) .cst) .cst)) .nil))))) rfl fun _ => ⟨.nil, Nat.zero_le _⟩)
def F_is_house : List D → Rs D
  | [vnet, vvalue] => runM (q_is_house vnet vvalue)
  | _ => .st
theorem shL_is_house (k : Nat) : ∀ ds : List D, Sh 0 (callK Ir.T (k + 3) "is_house" ds) (F_is_house ds)
  | [vnet, vvalue] => sh_is_house k vnet vvalue
  | [] => trivial
  | [_] => trivial
  | _ :: _ :: _ :: _ => trivial
theorem T_check_house : Ir.T "check_house" = some Ir.f_check_house := rfl
theorem md_check_house (k : Nat) : (orc Ir.T k).modes "check_house" = some [.sh, .sh] := orc_modes T_check_house k
def q_check_house (vnet vhouse : D) : Mx Unit (Oc Unit Empty) := iteM (tsM (notM (callM F_is_house [(pv vnet), (pv vhouse)]))) (stM) (nxM ())
theorem sh_check_house (k : Nat) (vnet vhouse : D) : Sh 0 (callK Ir.T (k + 4) "check_house" [vnet, vhouse]) (runM (q_check_house vnet vhouse)) :=
  sh_fn (k := k + 3) (π := fun s => [.v 0 vnet, .v 0 vhouse]) T_check_house ⟨rfl, Nat.le_of_ble_eq_true rfl⟩ rfl (fun _ => rfl) (.ifs (.of (.not (.call (md_is_house _) (shL_is_house (k + 0)) (.cons (.of (.var0 fun _ => rfl)) (.cons (.of (.var0 fun _ => rfl)) .nil))))) (.any) (.nil fun _ => ⟨.nil, Nat.zero_le _⟩))
def F_check_house : List D → Rs D
  | [vnet, vhouse] => runM (q_check_house vnet vhouse)
  | _ => .st
theorem shL_check_house (k : Nat) : ∀ ds : List D, Sh 0 (callK Ir.T (k + 4) "check_house" ds) (F_check_house ds)
  | [vnet, vhouse] => sh_check_house k vnet vhouse
  | [] => trivial
  | [_] => trivial
  | _ :: _ :: _ :: _ => trivial
theorem T_neighbours_of : Ir.T "neighbours_of" = some Ir.f_neighbours_of := rfl
theorem md_neighbours_of (k : Nat) : (orc Ir.T k).modes "neighbours_of" = some [.sh, .sh] := orc_modes T_neighbours_of k
def q_neighbours_of (vnet vhouse : D) : Mx Unit (Oc Unit Empty) := bd (compM (seqI (ixM (pv vnet) (pv (.int 1)))) fun r1 => un3 r1 fun vlow vhigh vmany => keepM (cmpM .eq (pv vhigh) (pv vhouse)) (pv vlow)) fun vfound => rtM (b1M 0 .sorted (opM 0 .add (pv vfound) (compM (seqI (ixM (pv vnet) (pv (.int 1)))) fun r2 => un3 r2 fun vlow vhigh vmany => keepM (cmpM .eq (pv vlow) (pv vhouse)) (pv vhigh))))
theorem sh_neighbours_of (k : Nat) (vnet vhouse : D) : Sh 0 (callK Ir.T (k + 1) "neighbours_of" [vnet, vhouse]) (runM (q_neighbours_of vnet vhouse)) :=
  sh_fn (k := k + 0) (π := fun s => [.v 0 vnet, .v 0 vhouse, .any, .any, .any, .any]) T_neighbours_of ⟨rfl, Nat.le_of_ble_eq_true rfl⟩ rfl (fun _ => rfl) (.asg (.of (.n0 (.comp (.seq (.of (.ix (.var0 fun _ => rfl) .cst))) (fun _ => rfl) fun r1 => .un3 fun vlow vhigh vmany => .name rfl (.name rfl (.name rfl (.keep (.cmp (.var0 fun _ => rfl) (.var0 fun _ => rfl)) (.of (.var0 fun _ => rfl)) (fun _ => rfl))))) rfl Nat.one_pos)) rfl zk fun vfound => .pat (π1 := fun s => [.v 0 vnet, .v 0 vhouse, .v 0 vfound, .any, .any, .any]) (fun _ => rfl) (.ret (.of (.b1 (.op (.var0 fun _ => rfl) (.n0 (.comp (.seq (.of (.ix (.var0 fun _ => rfl) .cst))) (fun _ => rfl) fun r2 => .un3 fun vlow vhigh vmany => .name rfl (.name rfl (.name rfl (.keep (.cmp (.var0 fun _ => rfl) (.var0 fun _ => rfl)) (.of (.var0 fun _ => rfl)) (fun _ => rfl))))) rfl Nat.one_pos)))) rfl fun _ => ⟨.nil, Nat.zero_le _⟩))
def F_neighbours_of : List D → Rs D
  | [vnet, vhouse] => runM (q_neighbours_of vnet vhouse)
  | _ => .st
theorem shL_neighbours_of (k : Nat) : ∀ ds : List D, Sh 0 (callK Ir.T (k + 1) "neighbours_of" ds) (F_neighbours_of ds)
  | [vnet, vhouse] => sh_neighbours_of k vnet vhouse
  | [] => trivial
  | [_] => trivial
  | _ :: _ :: _ :: _ => trivial
theorem T_directions_of : Ir.T "directions_of" = some Ir.f_directions_of := rfl
theorem md_directions_of (k : Nat) : (orc Ir.T k).modes "directions_of" = some [.sh] := orc_modes T_directions_of k
def q_directions_of (vnet : D) : Mx Unit (Oc Unit Empty) := rtM (b1M 0 .sorted (opM 0 .add (compM (seqI (ixM (pv vnet) (pv (.int 1)))) fun r1 => un3 r1 fun vlow vhigh vmany => allM (tupM [(pv vlow), (pv vhigh)])) (compM (seqI (ixM (pv vnet) (pv (.int 1)))) fun r2 => un3 r2 fun vlow vhigh vmany => allM (tupM [(pv vhigh), (pv vlow)]))))
theorem sh_directions_of (k : Nat) (vnet : D) : Sh 0 (callK Ir.T (k + 1) "directions_of" [vnet]) (runM (q_directions_of vnet)) :=
  sh_fn (k := k + 0) (π := fun s => [.v 0 vnet, .any, .any, .any]) T_directions_of ⟨rfl, Nat.le_of_ble_eq_true rfl⟩ rfl (fun _ => rfl) (.ret (.of (.b1 (.op (.n0 (.comp (.seq (.of (.ix (.var0 fun _ => rfl) .cst))) (fun _ => rfl) fun r1 => .un3 fun vlow vhigh vmany => .name rfl (.name rfl (.name rfl (.all (.of (.tup (.cons (.of (.var0 fun _ => rfl)) (.cons (.of (.var0 fun _ => rfl)) .nil)))) (fun _ => rfl))))) rfl Nat.one_pos) (.n0 (.comp (.seq (.of (.ix (.var0 fun _ => rfl) .cst))) (fun _ => rfl) fun r2 => .un3 fun vlow vhigh vmany => .name rfl (.name rfl (.name rfl (.all (.of (.tup (.cons (.of (.var0 fun _ => rfl)) (.cons (.of (.var0 fun _ => rfl)) .nil)))) (fun _ => rfl))))) rfl Nat.one_pos)))) rfl fun _ => ⟨.nil, Nat.zero_le _⟩)
def F_directions_of : List D → Rs D
  | [vnet] => runM (q_directions_of vnet)
  | _ => .st
theorem shL_directions_of (k : Nat) : ∀ ds : List D, Sh 0 (callK Ir.T (k + 1) "directions_of" ds) (F_directions_of ds)
  | [vnet] => sh_directions_of k vnet
  | [] => trivial
  | _ :: _ :: _ => trivial
theorem T_road_at : Ir.T "road_at" = some Ir.f_road_at := rfl
theorem md_road_at (k : Nat) : (orc Ir.T k).modes "road_at" = some [.sh, .sh, .sh] := orc_modes T_road_at k
def q_road_at (vnet vone vother : D) : Mx Unit (Oc Unit Empty) := rtM (mthM .index (compM (seqI (ixM (pv vnet) (pv (.int 1)))) fun r1 => allM (slM 0 (pv r1) noP (exP (pv (.int 2))))) (tupM [(b2M .min (pv vone) (pv vother)), (b2M .max (pv vone) (pv vother))]))
theorem sh_road_at (k : Nat) (vnet vone vother : D) : Sh 0 (callK Ir.T (k + 1) "road_at" [vnet, vone, vother]) (runM (q_road_at vnet vone vother)) :=
  sh_fn (k := k + 0) (π := fun s => [.v 0 vnet, .v 0 vone, .v 0 vother, .any]) T_road_at ⟨rfl, Nat.le_of_ble_eq_true rfl⟩ rfl (fun _ => rfl) (.ret (.of (.mth (.n0 (.comp (.seq (.of (.ix (.var0 fun _ => rfl) .cst))) (fun _ => rfl) fun r1 => .name rfl (.all (.of (.sl (.var0 fun _ => rfl) .no (.ex .cst))) (fun _ => rfl))) rfl Nat.one_pos) (.tup (.cons (.of (.b2 (.var0 fun _ => rfl) (.var0 fun _ => rfl))) (.cons (.of (.b2 (.var0 fun _ => rfl) (.var0 fun _ => rfl))) .nil))))) rfl fun _ => ⟨.nil, Nat.zero_le _⟩)
def F_road_at : List D → Rs D
  | [vnet, vone, vother] => runM (q_road_at vnet vone vother)
  | _ => .st
theorem shL_road_at (k : Nat) : ∀ ds : List D, Sh 0 (callK Ir.T (k + 1) "road_at" ds) (F_road_at ds)
  | [vnet, vone, vother] => sh_road_at k vnet vone vother
  | [] => trivial
  | [_] => trivial
  | [_, _] => trivial
  | _ :: _ :: _ :: _ :: _ => trivial
theorem T_keys_in : Ir.T "keys_in" = some Ir.f_keys_in := rfl
theorem md_keys_in (k : Nat) : (orc Ir.T k).modes "keys_in" = some [.sh, .sh, .sh, .sh] := orc_modes T_keys_in k
def q_keys_in (vnet vstanding vone vother : D) : Mx Unit (Oc Unit Empty) := bd (callM F_road_at [(pv vnet), (pv vone), (pv vother)]) fun vat => rtM (iteM (tsM (cmpM .gt (pv vother) (pv vone))) (ixM (pv vstanding) (pv vat)) (opM 0 .sub (ixM (ixM (ixM (pv vnet) (pv (.int 1))) (pv vat)) (pv (.int 2))) (ixM (pv vstanding) (pv vat))))
theorem sh_keys_in (k : Nat) (vnet vstanding vone vother : D) : Sh 0 (callK Ir.T (k + 2) "keys_in" [vnet, vstanding, vone, vother]) (runM (q_keys_in vnet vstanding vone vother)) :=
  sh_fn (k := k + 1) (π := fun s => [.v 0 vnet, .v 0 vstanding, .v 0 vone, .v 0 vother, .any]) T_keys_in ⟨rfl, Nat.le_of_ble_eq_true rfl⟩ rfl (fun _ => rfl) (.asg (.of (.call (md_road_at _) (shL_road_at (k + 0)) (.cons (.of (.var0 fun _ => rfl)) (.cons (.of (.var0 fun _ => rfl)) (.cons (.of (.var0 fun _ => rfl)) .nil))))) rfl zk fun vat => .pat (π1 := fun s => [.v 0 vnet, .v 0 vstanding, .v 0 vone, .v 0 vother, .v 0 vat]) (fun _ => rfl) (.ret (.of (.ife (.of (.cmp (.var0 fun _ => rfl) (.var0 fun _ => rfl))) (.ix (.var0 fun _ => rfl) (.var0 fun _ => rfl)) (.op (.ix (.ix (.ix (.var0 fun _ => rfl) .cst) (.var0 fun _ => rfl)) .cst) (.ix (.var0 fun _ => rfl) (.var0 fun _ => rfl))))) rfl fun _ => ⟨.nil, Nat.zero_le _⟩))
def F_keys_in : List D → Rs D
  | [vnet, vstanding, vone, vother] => runM (q_keys_in vnet vstanding vone vother)
  | _ => .st
theorem shL_keys_in (k : Nat) : ∀ ds : List D, Sh 0 (callK Ir.T (k + 2) "keys_in" ds) (F_keys_in ds)
  | [vnet, vstanding, vone, vother] => sh_keys_in k vnet vstanding vone vother
  | [] => trivial
  | [_] => trivial
  | [_, _] => trivial
  | [_, _, _] => trivial
  | _ :: _ :: _ :: _ :: _ :: _ => trivial
theorem T_lengths_from : Ir.T "lengths_from" = some Ir.f_lengths_from := rfl
theorem md_lengths_from (k : Nat) : (orc Ir.T k).modes "lengths_from" = some [.sh, .sh, .sh] := orc_modes T_lengths_from k
def l_lengths_from_0 (vnet : D) (vstanding : D) (vsources : D) (vturn : D) (r5 : D) (r4 : D) : Mx Unit (Oc (D) (D)) := un2 r5 fun vone vother => iteM (tsM (cmpM .isnot (ixM (pv r4) (pv vone)) (pv .none))) (bd (opM 0 .add (ixM (pv r4) (pv vone)) (callM F_keys_in [(pv vnet), (pv vstanding), (pv vone), (pv vother)])) fun vlength => iteM (tsM (orM (cmpM .is (ixM (pv r4) (pv vother)) (pv .none)) (cmpM .lt (pv vlength) (ixM (pv r4) (pv vother))))) (setM (pv vlength) (pv vother) r4 fun vfound => nxM (vfound)) (nxM (r4))) (nxM (r4))
theorem hl_lengths_from_0 (k : Nat) (vnet : D) (vstanding : D) (vsources : D) (vturn : D) (r5 : D) (r4 : D) : TB Ir.f_lengths_from.gam (.tup (.cons (.name 5) (.cons (.name 6) .nil))) (fun s => [.v 0 vnet, .v 0 vstanding, .v 0 vsources, .v 1 r4, .v 0 vturn, .any, .any, .any, .any]) r5 (l_lengths_from_0 vnet vstanding vsources vturn r5 r4) (fun π2 m => XS (orc Ir.T (k + 2)) Ir.f_lengths_from.gam 0 (fun (r4 : D) => fun s => [.v 0 vnet, .v 0 vstanding, .v 0 vsources, .v 1 r4, .v 0 vturn, .any, .any, .any, .any]) (fun (r4 : D) => fun s => [.v 0 vnet, .v 0 vstanding, .v 0 vsources, .v 1 r4, .v 0 vturn, .any, .any, .any, .any]) (fun _ => []) π2 Ir.b_lengths_from_0 m) := .un2 fun vone vother => .name rfl (.name rfl (.pat (π1 := fun s => [.v 0 vnet, .v 0 vstanding, .v 0 vsources, .v 1 r4, .v 0 vturn, .v 0 vone, .v 0 vother, .any, .any]) (fun _ => rfl) (.ifs (.of (.cmp (.ix (.var1 fun _ => rfl) (.var0 fun _ => rfl)) .cst)) (.asg (.of (.op (.ix (.var1 fun _ => rfl) (.var0 fun _ => rfl)) (.call (md_keys_in _) (shL_keys_in (k + 0)) (.cons (.of (.var0 fun _ => rfl)) (.cons (.of (.var0 fun _ => rfl)) (.cons (.of (.var0 fun _ => rfl)) (.cons (.of (.var0 fun _ => rfl)) .nil))))))) rfl zk fun vlength => .pat (π1 := fun s => [.v 0 vnet, .v 0 vstanding, .v 0 vsources, .v 1 r4, .v 0 vturn, .v 0 vone, .v 0 vother, .v 0 vlength, .any]) (fun _ => rfl) (.ifs (.of (.or (.cmp (.ix (.var1 fun _ => rfl) (.var0 fun _ => rfl)) .cst) (.cmp (.var0 fun _ => rfl) (.ix (.var1 fun _ => rfl) (.var0 fun _ => rfl))))) (.setix (.of (.var0 fun _ => rfl)) (fun _ => rfl) (.var0 fun _ => rfl) (fun _ => rfl) fun vfound => .pat (π1 := fun s => [.v 0 vnet, .v 0 vstanding, .v 0 vsources, .v 1 vfound, .v 0 vturn, .v 0 vone, .v 0 vother, .v 0 vlength, .any]) (fun _ => rfl) (.nil fun _ => ⟨(.v (.v (.v (.v (.v (.any (.any (.any (.any .nil))))))))), Nat.le_refl _⟩)) (.nil fun _ => ⟨(.v (.v (.v (.v (.v (.any (.any (.any (.any .nil))))))))), Nat.le_refl _⟩))) (.nil fun _ => ⟨(.v (.v (.v (.v (.v (.any (.any (.any (.any .nil))))))))), Nat.le_refl _⟩))))
def l_lengths_from_1 (vnet : D) (vstanding : D) (vsources : D) (r3 : D) (r2 : D) : Mx Unit (Oc (D) (D)) := sqO (forM (seqI (callM F_directions_of [(pv vnet)])) ((r2) : D) (l_lengths_from_0 vnet vstanding vsources r3)) fun r4 => nxM (r4)
theorem hl_lengths_from_1 (k : Nat) (vnet : D) (vstanding : D) (vsources : D) (r3 : D) (r2 : D) : TB Ir.f_lengths_from.gam (.name 4) (fun s => [.v 0 vnet, .v 0 vstanding, .v 0 vsources, .v 1 r2, .any, .any, .any, .any, .any]) r3 (l_lengths_from_1 vnet vstanding vsources r3 r2) (fun π2 m => XS (orc Ir.T (k + 2)) Ir.f_lengths_from.gam 0 (fun (r2 : D) => fun s => [.v 0 vnet, .v 0 vstanding, .v 0 vsources, .v 1 r2, .any, .any, .any, .any, .any]) (fun (r2 : D) => fun s => [.v 0 vnet, .v 0 vstanding, .v 0 vsources, .v 1 r2, .any, .any, .any, .any, .any]) (fun _ => []) π2 Ir.b_lengths_from_1 m) := .name rfl (.pat (π1 := fun s => [.v 0 vnet, .v 0 vstanding, .v 0 vsources, .v 1 r2, .v 0 r3, .any, .any, .any, .any]) (fun _ => rfl) (.for_ (πj := fun (r4 : D) => fun s => [.v 0 vnet, .v 0 vstanding, .v 0 vsources, .v 1 r4, .v 0 r3, .any, .any, .any, .any]) (.seq (.of (.call (md_directions_of _) (shL_directions_of (k + 1)) (.cons (.of (.var0 fun _ => rfl)) .nil)))) (fun _ => ⟨(.v (.v (.v (.v (.v (.any (.any (.any (.any .nil))))))))), Nat.le_refl _⟩) (hl_lengths_from_0 _ vnet vstanding vsources r3) fun r4 => .nil fun _ => ⟨(.v (.v (.v (.v (.any (.any (.any (.any (.any .nil))))))))), Nat.le_refl _⟩))
def q_lengths_from (vnet vstanding vsources : D) : Mx Unit (Oc Unit Empty) := bd (compM (rg1 (ixM (pv vnet) (pv (.int 0)))) fun r1 => allM (iteM (tsM (cmpM .isin (pv r1) (pv vsources))) (pv (.int 0)) (pv .none))) fun vfound => sqO (forM (rg1 (ixM (pv vnet) (pv (.int 0)))) ((vfound) : D) (l_lengths_from_1 vnet vstanding vsources)) fun r2 => rtM (pv r2)
theorem sh_lengths_from (k : Nat) (vnet vstanding vsources : D) : Sh 0 (callK Ir.T (k + 3) "lengths_from" [vnet, vstanding, vsources]) (runM (q_lengths_from vnet vstanding vsources)) :=
  sh_fn (k := k + 2) (π := fun s => [.v 0 vnet, .v 0 vstanding, .v 0 vsources, .any, .any, .any, .any, .any, .any]) T_lengths_from ⟨rfl, Nat.le_of_ble_eq_true rfl⟩ rfl (fun _ => rfl) (.asg (.of (.comp (.range1 (.ix (.var0 fun _ => rfl) .cst)) (fun _ => rfl) fun r1 => .name rfl (.all (.of (.ife (.of (.cmp (.var0 fun _ => rfl) (.var0 fun _ => rfl))) .cst .cst)) (fun _ => rfl)))) rfl ok1 fun vfound => .pat (π1 := fun s => [.v 0 vnet, .v 0 vstanding, .v 0 vsources, .v 1 vfound, .any, .any, .any, .any, .any]) (fun _ => rfl) (.for_ (πj := fun (r2 : D) => fun s => [.v 0 vnet, .v 0 vstanding, .v 0 vsources, .v 1 r2, .any, .any, .any, .any, .any]) (.range1 (.ix (.var0 fun _ => rfl) .cst)) (fun _ => ⟨(.v (.v (.v (.v (.any (.any (.any (.any (.any .nil))))))))), Nat.le_refl _⟩) (hl_lengths_from_1 _ vnet vstanding vsources) fun r2 => .ret (.own fun _ => rfl) rfl fun _ => ⟨.nil, Nat.zero_le _⟩))
def F_lengths_from : List D → Rs D
  | [vnet, vstanding, vsources] => runM (q_lengths_from vnet vstanding vsources)
  | _ => .st
theorem shL_lengths_from (k : Nat) : ∀ ds : List D, Sh 0 (callK Ir.T (k + 3) "lengths_from" ds) (F_lengths_from ds)
  | [vnet, vstanding, vsources] => sh_lengths_from k vnet vstanding vsources
  | [] => trivial
  | [_] => trivial
  | [_, _] => trivial
  | _ :: _ :: _ :: _ :: _ => trivial
theorem T_free_ahead : Ir.T "free_ahead" = some Ir.f_free_ahead := rfl
theorem md_free_ahead (k : Nat) : (orc Ir.T k).modes "free_ahead" = some [.sh, .sh, .sh] := orc_modes T_free_ahead k
def l_free_ahead_0 (vnet : D) (vstanding : D) (vhouses : D) (r2 : D) (r1 : D) : Mx Unit (Oc (D) (D)) := bd (opM 0 .add (pv r1) (compM (seqI (callM F_neighbours_of [(pv vnet), (pv r2)])) fun r3 => keepM (cmpM .eq (callM F_keys_in [(pv vnet), (pv vstanding), (pv r2), (pv r3)]) (pv (.int 0))) (pv r3))) fun vfound => nxM (vfound)
theorem hl_free_ahead_0 (k : Nat) (vnet : D) (vstanding : D) (vhouses : D) (r2 : D) (r1 : D) : TB Ir.f_free_ahead.gam (.name 4) (fun s => [.v 0 vnet, .v 0 vstanding, .v 0 vhouses, .v 0 r1, .any, .any]) r2 (l_free_ahead_0 vnet vstanding vhouses r2 r1) (fun π2 m => XS (orc Ir.T (k + 2)) Ir.f_free_ahead.gam 0 (fun (r1 : D) => fun s => [.v 0 vnet, .v 0 vstanding, .v 0 vhouses, .v 0 r1, .any, .any]) (fun (r1 : D) => fun s => [.v 0 vnet, .v 0 vstanding, .v 0 vhouses, .v 0 r1, .any, .any]) (fun _ => []) π2 Ir.b_free_ahead_0 m) := .name rfl (.pat (π1 := fun s => [.v 0 vnet, .v 0 vstanding, .v 0 vhouses, .v 0 r1, .v 0 r2, .any]) (fun _ => rfl) (.asg (.of (.op (.var0 fun _ => rfl) (.n0 (.comp (.seq (.of (.call (md_neighbours_of _) (shL_neighbours_of (k + 1)) (.cons (.of (.var0 fun _ => rfl)) (.cons (.of (.var0 fun _ => rfl)) .nil))))) (fun _ => rfl) fun r3 => .name rfl (.keep (.cmp (.call (md_keys_in _) (shL_keys_in (k + 0)) (.cons (.of (.var0 fun _ => rfl)) (.cons (.of (.var0 fun _ => rfl)) (.cons (.of (.var0 fun _ => rfl)) (.cons (.of (.var0 fun _ => rfl)) .nil))))) .cst) (.of (.var0 fun _ => rfl)) (fun _ => rfl))) rfl Nat.one_pos))) rfl zk fun vfound => .pat (π1 := fun s => [.v 0 vnet, .v 0 vstanding, .v 0 vhouses, .v 0 vfound, .v 0 r2, .any]) (fun _ => rfl) (.nil fun _ => ⟨(.v (.v (.v (.v (.any (.any .nil)))))), Nat.le_refl _⟩)))
def q_free_ahead (vnet vstanding vhouses : D) : Mx Unit (Oc Unit Empty) := bd (lstM []) fun vfound => sqO (forM (seqI (pv vhouses)) ((vfound) : D) (l_free_ahead_0 vnet vstanding vhouses)) fun r1 => rtM (b1M 0 .sset (pv r1))
theorem sh_free_ahead (k : Nat) (vnet vstanding vhouses : D) : Sh 0 (callK Ir.T (k + 3) "free_ahead" [vnet, vstanding, vhouses]) (runM (q_free_ahead vnet vstanding vhouses)) :=
  sh_fn (k := k + 2) (π := fun s => [.v 0 vnet, .v 0 vstanding, .v 0 vhouses, .any, .any, .any]) T_free_ahead ⟨rfl, Nat.le_of_ble_eq_true rfl⟩ rfl (fun _ => rfl) (.asg (.of (.n0 (.lst .nil) rfl Nat.one_pos)) rfl zk fun vfound => .pat (π1 := fun s => [.v 0 vnet, .v 0 vstanding, .v 0 vhouses, .v 0 vfound, .any, .any]) (fun _ => rfl) (.for_ (πj := fun (r1 : D) => fun s => [.v 0 vnet, .v 0 vstanding, .v 0 vhouses, .v 0 r1, .any, .any]) (.seq (.of (.var0 fun _ => rfl))) (fun _ => ⟨(.v (.v (.v (.v (.any (.any .nil)))))), Nat.le_refl _⟩) (hl_free_ahead_0 _ vnet vstanding vhouses) fun r1 => .ret (.of (.b1 (.var0 fun _ => rfl))) rfl fun _ => ⟨.nil, Nat.zero_le _⟩))
def F_free_ahead : List D → Rs D
  | [vnet, vstanding, vhouses] => runM (q_free_ahead vnet vstanding vhouses)
  | _ => .st
theorem shL_free_ahead (k : Nat) : ∀ ds : List D, Sh 0 (callK Ir.T (k + 3) "free_ahead" ds) (F_free_ahead ds)
  | [vnet, vstanding, vhouses] => sh_free_ahead k vnet vstanding vhouses
  | [] => trivial
  | [_] => trivial
  | [_, _] => trivial
  | _ :: _ :: _ :: _ :: _ => trivial
theorem T_stuck_houses : Ir.T "stuck_houses" = some Ir.f_stuck_houses := rfl
theorem md_stuck_houses (k : Nat) : (orc Ir.T k).modes "stuck_houses" = some [.sh, .sh] := orc_modes T_stuck_houses k
def l_stuck_houses_0 (vnet : D) (vstanding : D) (vfound : D) (vhouses : D) (vhouse : D) (r7 : D) (r6 : D) : Mx Unit (Oc (D) (D)) := bd (opM 0 .add (pv r6) (compM (seqI (callM F_free_ahead [(pv vnet), (pv vstanding), (pv r6)])) fun r8 => keepM (cmpM .notin (pv r8) (pv r6)) (pv r8))) fun vreached => nxM (vreached)
theorem hl_stuck_houses_0 (k : Nat) (vnet : D) (vstanding : D) (vfound : D) (vhouses : D) (vhouse : D) (r7 : D) (r6 : D) : TB Ir.f_stuck_houses.gam (.name 6) (fun s => [.v 0 vnet, .v 0 vstanding, .v 1 vfound, .v 0 vhouses, .v 0 vhouse, .v 0 r6, .any, .any, .any, .any, .any]) r7 (l_stuck_houses_0 vnet vstanding vfound vhouses vhouse r7 r6) (fun π2 m => XS (orc Ir.T (k + 3)) Ir.f_stuck_houses.gam 0 (fun (r6 : D) => fun s => [.v 0 vnet, .v 0 vstanding, .v 1 vfound, .v 0 vhouses, .v 0 vhouse, .v 0 r6, .any, .any, .any, .any, .any]) (fun (r6 : D) => fun s => [.v 0 vnet, .v 0 vstanding, .v 1 vfound, .v 0 vhouses, .v 0 vhouse, .v 0 r6, .any, .any, .any, .any, .any]) (fun _ => []) π2 Ir.b_stuck_houses_0 m) := .name rfl (.pat (π1 := fun s => [.v 0 vnet, .v 0 vstanding, .v 1 vfound, .v 0 vhouses, .v 0 vhouse, .v 0 r6, .v 0 r7, .any, .any, .any, .any]) (fun _ => rfl) (.asg (.of (.op (.var0 fun _ => rfl) (.n0 (.comp (.seq (.of (.call (md_free_ahead _) (shL_free_ahead (k + 0)) (.cons (.of (.var0 fun _ => rfl)) (.cons (.of (.var0 fun _ => rfl)) (.cons (.of (.var0 fun _ => rfl)) .nil)))))) (fun _ => rfl) fun r8 => .name rfl (.keep (.cmp (.var0 fun _ => rfl) (.var0 fun _ => rfl)) (.of (.var0 fun _ => rfl)) (fun _ => rfl))) rfl Nat.one_pos))) rfl zk fun vreached => .pat (π1 := fun s => [.v 0 vnet, .v 0 vstanding, .v 1 vfound, .v 0 vhouses, .v 0 vhouse, .v 0 vreached, .v 0 r7, .any, .any, .any, .any]) (fun _ => rfl) (.nil fun _ => ⟨(.v (.v (.v (.v (.v (.v (.any (.any (.any (.any (.any .nil))))))))))), Nat.le_refl _⟩)))
def l_stuck_houses_1 (vnet : D) (vstanding : D) (vhouses : D) (r4 : D) (r3 : D) : Mx Unit (Oc (D) (D)) := bd (compM (seqI (callM F_neighbours_of [(pv vnet), (pv r4)])) fun r5 => keepM (cmpM .eq (callM F_keys_in [(pv vnet), (pv vstanding), (pv r4), (pv r5)]) (pv (.int 0))) (pv r5)) fun vreached => sqO (forM (rg1 (b1M 0 .len (pv vhouses))) ((vreached) : D) (l_stuck_houses_0 vnet vstanding r3 vhouses r4)) fun r6 => iteM (tsM (cmpM .isin (pv r4) (pv r6))) (appM r3 (pv r4) fun vfound => nxM (vfound)) (nxM (r3))
theorem hl_stuck_houses_1 (k : Nat) (vnet : D) (vstanding : D) (vhouses : D) (r4 : D) (r3 : D) : TB Ir.f_stuck_houses.gam (.name 4) (fun s => [.v 0 vnet, .v 0 vstanding, .v 1 r3, .v 0 vhouses, .any, .any, .any, .any, .any, .any, .any]) r4 (l_stuck_houses_1 vnet vstanding vhouses r4 r3) (fun π2 m => XS (orc Ir.T (k + 3)) Ir.f_stuck_houses.gam 0 (fun (r3 : D) => fun s => [.v 0 vnet, .v 0 vstanding, .v 1 r3, .v 0 vhouses, .any, .any, .any, .any, .any, .any, .any]) (fun (r3 : D) => fun s => [.v 0 vnet, .v 0 vstanding, .v 1 r3, .v 0 vhouses, .any, .any, .any, .any, .any, .any, .any]) (fun _ => []) π2 Ir.b_stuck_houses_1 m) := .name rfl (.pat (π1 := fun s => [.v 0 vnet, .v 0 vstanding, .v 1 r3, .v 0 vhouses, .v 0 r4, .any, .any, .any, .any, .any, .any]) (fun _ => rfl) (.asg (.of (.n0 (.comp (.seq (.of (.call (md_neighbours_of _) (shL_neighbours_of (k + 2)) (.cons (.of (.var0 fun _ => rfl)) (.cons (.of (.var0 fun _ => rfl)) .nil))))) (fun _ => rfl) fun r5 => .name rfl (.keep (.cmp (.call (md_keys_in _) (shL_keys_in (k + 1)) (.cons (.of (.var0 fun _ => rfl)) (.cons (.of (.var0 fun _ => rfl)) (.cons (.of (.var0 fun _ => rfl)) (.cons (.of (.var0 fun _ => rfl)) .nil))))) .cst) (.of (.var0 fun _ => rfl)) (fun _ => rfl))) rfl Nat.one_pos)) rfl zk fun vreached => .pat (π1 := fun s => [.v 0 vnet, .v 0 vstanding, .v 1 r3, .v 0 vhouses, .v 0 r4, .v 0 vreached, .any, .any, .any, .any, .any]) (fun _ => rfl) (.for_ (πj := fun (r6 : D) => fun s => [.v 0 vnet, .v 0 vstanding, .v 1 r3, .v 0 vhouses, .v 0 r4, .v 0 r6, .any, .any, .any, .any, .any]) (.range1 (.b1 (.var0 fun _ => rfl))) (fun _ => ⟨(.v (.v (.v (.v (.v (.v (.any (.any (.any (.any (.any .nil))))))))))), Nat.le_refl _⟩) (hl_stuck_houses_0 _ vnet vstanding r3 vhouses r4) fun r6 => .ifs (.of (.cmp (.var0 fun _ => rfl) (.var0 fun _ => rfl))) (.app (fun _ => rfl) (.of (.var0 fun _ => rfl)) (fun _ => rfl) fun vfound => .pat (π1 := fun s => [.v 0 vnet, .v 0 vstanding, .v 1 vfound, .v 0 vhouses, .v 0 r4, .v 0 r6, .any, .any, .any, .any, .any]) (fun _ => rfl) (.nil fun _ => ⟨(.v (.v (.v (.v (.any (.any (.any (.any (.any (.any (.any .nil))))))))))), Nat.le_refl _⟩)) (.nil fun _ => ⟨(.v (.v (.v (.v (.any (.any (.any (.any (.any (.any (.any .nil))))))))))), Nat.le_refl _⟩))))
def q_stuck_houses (vnet vstanding : D) : Mx Unit (Oc Unit Empty) := bd (lstM []) fun vfound => bd (b1M 0 .sset (opM 0 .add (compM (seqI (ixM (pv vnet) (pv (.int 1)))) fun r1 => un3 r1 fun vlow vhigh vmany => allM (pv vlow)) (compM (seqI (ixM (pv vnet) (pv (.int 1)))) fun r2 => un3 r2 fun vlow vhigh vmany => allM (pv vhigh)))) fun vhouses => sqO (forM (seqI (pv vhouses)) ((vfound) : D) (l_stuck_houses_1 vnet vstanding vhouses)) fun r3 => rtM (pv r3)
theorem sh_stuck_houses (k : Nat) (vnet vstanding : D) : Sh 0 (callK Ir.T (k + 4) "stuck_houses" [vnet, vstanding]) (runM (q_stuck_houses vnet vstanding)) :=
  sh_fn (k := k + 3) (π := fun s => [.v 0 vnet, .v 0 vstanding, .any, .any, .any, .any, .any, .any, .any, .any, .any]) T_stuck_houses ⟨rfl, Nat.le_of_ble_eq_true rfl⟩ rfl (fun _ => rfl) (.tas2 (.of (.lst .nil)) (.of (.b1 (.op (.n0 (.comp (.seq (.of (.ix (.var0 fun _ => rfl) .cst))) (fun _ => rfl) fun r1 => .un3 fun vlow vhigh vmany => .name rfl (.name rfl (.name rfl (.all (.of (.var0 fun _ => rfl)) (fun _ => rfl))))) rfl Nat.one_pos) (.n0 (.comp (.seq (.of (.ix (.var0 fun _ => rfl) .cst))) (fun _ => rfl) fun r2 => .un3 fun vlow vhigh vmany => .name rfl (.name rfl (.name rfl (.all (.of (.var0 fun _ => rfl)) (fun _ => rfl))))) rfl Nat.one_pos)))) rfl rfl ok1 zk fun vfound vhouses => .pat (π1 := fun s => [.v 0 vnet, .v 0 vstanding, .v 1 vfound, .v 0 vhouses, .any, .any, .any, .any, .any, .any, .any]) (fun _ => rfl) (.for_ (πj := fun (r3 : D) => fun s => [.v 0 vnet, .v 0 vstanding, .v 1 r3, .v 0 vhouses, .any, .any, .any, .any, .any, .any, .any]) (.seq (.of (.var0 fun _ => rfl))) (fun _ => ⟨(.v (.v (.v (.v (.any (.any (.any (.any (.any (.any (.any .nil))))))))))), Nat.le_refl _⟩) (hl_stuck_houses_1 _ vnet vstanding vhouses) fun r3 => .ret (.own fun _ => rfl) rfl fun _ => ⟨.nil, Nat.zero_le _⟩))
def F_stuck_houses : List D → Rs D
  | [vnet, vstanding] => runM (q_stuck_houses vnet vstanding)
  | _ => .st
theorem shL_stuck_houses (k : Nat) : ∀ ds : List D, Sh 0 (callK Ir.T (k + 4) "stuck_houses" ds) (F_stuck_houses ds)
  | [vnet, vstanding] => sh_stuck_houses k vnet vstanding
  | [] => trivial
  | [_] => trivial
  | _ :: _ :: _ :: _ => trivial
theorem T_leads_over : Ir.T "leads_over" = some Ir.f_leads_over := rfl
theorem md_leads_over (k : Nat) : (orc Ir.T k).modes "leads_over" = some [.sh, .sh, .sh, .sh] := orc_modes T_leads_over k
def q_leads_over (vnet vstanding vstuck vone : D) : Mx Unit (Oc Unit Empty) := rtM (callM F_lengths_from [(pv vnet), (pv vstanding), (b1M 0 .sset (opM 0 .add (pv vstuck) (lstM [(pv vone)])))])
theorem sh_leads_over (k : Nat) (vnet vstanding vstuck vone : D) : Sh 0 (callK Ir.T (k + 4) "leads_over" [vnet, vstanding, vstuck, vone]) (runM (q_leads_over vnet vstanding vstuck vone)) :=
  sh_fn (k := k + 3) (π := fun s => [.v 0 vnet, .v 0 vstanding, .v 0 vstuck, .v 0 vone]) T_leads_over ⟨rfl, Nat.le_of_ble_eq_true rfl⟩ rfl (fun _ => rfl) (.ret (.of (.call (md_lengths_from _) (shL_lengths_from (k + 0)) (.cons (.of (.var0 fun _ => rfl)) (.cons (.of (.var0 fun _ => rfl)) (.cons (.of (.b1 (.op (.var0 fun _ => rfl) (.n0 (.lst (.cons (.of (.var0 fun _ => rfl)) .nil)) rfl Nat.one_pos)))) .nil))))) rfl fun _ => ⟨.nil, Nat.zero_le _⟩)
def F_leads_over : List D → Rs D
  | [vnet, vstanding, vstuck, vone] => runM (q_leads_over vnet vstanding vstuck vone)
  | _ => .st
theorem shL_leads_over (k : Nat) : ∀ ds : List D, Sh 0 (callK Ir.T (k + 4) "leads_over" ds) (F_leads_over ds)
  | [vnet, vstanding, vstuck, vone] => sh_leads_over k vnet vstanding vstuck vone
  | [] => trivial
  | [_] => trivial
  | [_, _] => trivial
  | [_, _, _] => trivial
  | _ :: _ :: _ :: _ :: _ :: _ => trivial
theorem T_lead_in : Ir.T "lead_in" = some Ir.f_lead_in := rfl
theorem md_lead_in (k : Nat) : (orc Ir.T k).modes "lead_in" = some [.sh, .sh, .sh, .sh] := orc_modes T_lead_in k
def q_lead_in (vnet vstanding vone vother : D) : Mx Unit (Oc Unit Empty) := rtM (iteM (tsM (cmpM .eq (pv vone) (pv vother))) (pv (.int 0)) (ixM (callM F_leads_over [(pv vnet), (pv vstanding), (callM F_stuck_houses [(pv vnet), (pv vstanding)]), (pv vone)]) (pv vother)))
theorem sh_lead_in (k : Nat) (vnet vstanding vone vother : D) : Sh 0 (callK Ir.T (k + 5) "lead_in" [vnet, vstanding, vone, vother]) (runM (q_lead_in vnet vstanding vone vother)) :=
  sh_fn (k := k + 4) (π := fun s => [.v 0 vnet, .v 0 vstanding, .v 0 vone, .v 0 vother]) T_lead_in ⟨rfl, Nat.le_of_ble_eq_true rfl⟩ rfl (fun _ => rfl) (.ret (.of (.ife (.of (.cmp (.var0 fun _ => rfl) (.var0 fun _ => rfl))) .cst (.ix (.call (md_leads_over _) (shL_leads_over (k + 0)) (.cons (.of (.var0 fun _ => rfl)) (.cons (.of (.var0 fun _ => rfl)) (.cons (.of (.call (md_stuck_houses _) (shL_stuck_houses (k + 0)) (.cons (.of (.var0 fun _ => rfl)) (.cons (.of (.var0 fun _ => rfl)) .nil)))) (.cons (.of (.var0 fun _ => rfl)) .nil))))) (.var0 fun _ => rfl)))) rfl fun _ => ⟨.nil, Nat.zero_le _⟩)
def F_lead_in : List D → Rs D
  | [vnet, vstanding, vone, vother] => runM (q_lead_in vnet vstanding vone vother)
  | _ => .st
theorem shL_lead_in (k : Nat) : ∀ ds : List D, Sh 0 (callK Ir.T (k + 5) "lead_in" ds) (F_lead_in ds)
  | [vnet, vstanding, vone, vother] => sh_lead_in k vnet vstanding vone vother
  | [] => trivial
  | [_] => trivial
  | [_, _] => trivial
  | [_, _, _] => trivial
  | _ :: _ :: _ :: _ :: _ :: _ => trivial
theorem T_check_pair : Ir.T "check_pair" = some Ir.f_check_pair := rfl
theorem md_check_pair (k : Nat) : (orc Ir.T k).modes "check_pair" = some [.sh, .sh, .sh, .sh] := orc_modes T_check_pair k
def q_check_pair (vnet vstanding vone vother : D) : Mx Unit (Oc Unit Empty) := bd (callM F_check_standing [(pv vnet), (pv vstanding)]) fun _ => bd (callM F_check_house [(pv vnet), (pv vone)]) fun _ => bd (callM F_check_house [(pv vnet), (pv vother)]) fun _ => nxM ()
theorem sh_check_pair (k : Nat) (vnet vstanding vone vother : D) : Sh 0 (callK Ir.T (k + 7) "check_pair" [vnet, vstanding, vone, vother]) (runM (q_check_pair vnet vstanding vone vother)) :=
  sh_fn (k := k + 6) (π := fun s => [.v 0 vnet, .v 0 vstanding, .v 0 vone, .v 0 vother]) T_check_pair ⟨rfl, Nat.le_of_ble_eq_true rfl⟩ rfl (fun _ => rfl) (.expr (.call (md_check_standing _) (shL_check_standing (k + 0)) (.cons (.of (.var0 fun _ => rfl)) (.cons (.of (.var0 fun _ => rfl)) .nil))) (.expr (.call (md_check_house _) (shL_check_house (k + 2)) (.cons (.of (.var0 fun _ => rfl)) (.cons (.of (.var0 fun _ => rfl)) .nil))) (.expr (.call (md_check_house _) (shL_check_house (k + 2)) (.cons (.of (.var0 fun _ => rfl)) (.cons (.of (.var0 fun _ => rfl)) .nil))) (.nil fun _ => ⟨.nil, Nat.zero_le _⟩))))
def F_check_pair : List D → Rs D
  | [vnet, vstanding, vone, vother] => runM (q_check_pair vnet vstanding vone vother)
  | _ => .st
theorem shL_check_pair (k : Nat) : ∀ ds : List D, Sh 0 (callK Ir.T (k + 7) "check_pair" ds) (F_check_pair ds)
  | [vnet, vstanding, vone, vother] => sh_check_pair k vnet vstanding vone vother
  | [] => trivial
  | [_] => trivial
  | [_, _] => trivial
  | [_, _, _] => trivial
  | _ :: _ :: _ :: _ :: _ :: _ => trivial
theorem T_check_ends : Ir.T "check_ends" = some Ir.f_check_ends := rfl
theorem md_check_ends (k : Nat) : (orc Ir.T k).modes "check_ends" = some [.sh, .sh, .sh, .sh] := orc_modes T_check_ends k
def q_check_ends (vnet vstanding vone vother : D) : Mx Unit (Oc Unit Empty) := bd (callM F_check_pair [(pv vnet), (pv vstanding), (pv vone), (pv vother)]) fun _ => iteM (tsM (cmpM .notin (pv vother) (callM F_neighbours_of [(pv vnet), (pv vone)]))) (stM) (nxM ())
theorem sh_check_ends (k : Nat) (vnet vstanding vone vother : D) : Sh 0 (callK Ir.T (k + 8) "check_ends" [vnet, vstanding, vone, vother]) (runM (q_check_ends vnet vstanding vone vother)) :=
  sh_fn (k := k + 7) (π := fun s => [.v 0 vnet, .v 0 vstanding, .v 0 vone, .v 0 vother]) T_check_ends ⟨rfl, Nat.le_of_ble_eq_true rfl⟩ rfl (fun _ => rfl) (.expr (.call (md_check_pair _) (shL_check_pair (k + 0)) (.cons (.of (.var0 fun _ => rfl)) (.cons (.of (.var0 fun _ => rfl)) (.cons (.of (.var0 fun _ => rfl)) (.cons (.of (.var0 fun _ => rfl)) .nil))))) (.ifs (.of (.cmp (.var0 fun _ => rfl) (.call (md_neighbours_of _) (shL_neighbours_of (k + 6)) (.cons (.of (.var0 fun _ => rfl)) (.cons (.of (.var0 fun _ => rfl)) .nil))))) (.any) (.nil fun _ => ⟨.nil, Nat.zero_le _⟩)))
def F_check_ends : List D → Rs D
  | [vnet, vstanding, vone, vother] => runM (q_check_ends vnet vstanding vone vother)
  | _ => .st
theorem shL_check_ends (k : Nat) : ∀ ds : List D, Sh 0 (callK Ir.T (k + 8) "check_ends" ds) (F_check_ends ds)
  | [vnet, vstanding, vone, vother] => sh_check_ends k vnet vstanding vone vother
  | [] => trivial
  | [_] => trivial
  | [_, _] => trivial
  | [_, _, _] => trivial
  | _ :: _ :: _ :: _ :: _ :: _ => trivial
theorem T_fewest_keys : Ir.T "fewest_keys" = some Ir.f_fewest_keys := rfl
theorem md_fewest_keys (k : Nat) : (orc Ir.T k).modes "fewest_keys" = some [.sh, .sh, .sh, .sh] := orc_modes T_fewest_keys k
def q_fewest_keys (vnet vstanding vone vother : D) : Mx Unit (Oc Unit Empty) := bd (callM F_check_ends [(pv vnet), (pv vstanding), (pv vone), (pv vother)]) fun _ => rtM (opM 0 .sub (callM F_keys_in [(pv vnet), (pv vstanding), (pv vone), (pv vother)]) (callM F_lead_in [(pv vnet), (pv vstanding), (pv vone), (pv vother)]))
theorem sh_fewest_keys (k : Nat) (vnet vstanding vone vother : D) : Sh 0 (callK Ir.T (k + 9) "fewest_keys" [vnet, vstanding, vone, vother]) (runM (q_fewest_keys vnet vstanding vone vother)) :=
  sh_fn (k := k + 8) (π := fun s => [.v 0 vnet, .v 0 vstanding, .v 0 vone, .v 0 vother]) T_fewest_keys ⟨rfl, Nat.le_of_ble_eq_true rfl⟩ rfl (fun _ => rfl) (.expr (.call (md_check_ends _) (shL_check_ends (k + 0)) (.cons (.of (.var0 fun _ => rfl)) (.cons (.of (.var0 fun _ => rfl)) (.cons (.of (.var0 fun _ => rfl)) (.cons (.of (.var0 fun _ => rfl)) .nil))))) (.ret (.of (.op (.call (md_keys_in _) (shL_keys_in (k + 6)) (.cons (.of (.var0 fun _ => rfl)) (.cons (.of (.var0 fun _ => rfl)) (.cons (.of (.var0 fun _ => rfl)) (.cons (.of (.var0 fun _ => rfl)) .nil))))) (.call (md_lead_in _) (shL_lead_in (k + 3)) (.cons (.of (.var0 fun _ => rfl)) (.cons (.of (.var0 fun _ => rfl)) (.cons (.of (.var0 fun _ => rfl)) (.cons (.of (.var0 fun _ => rfl)) .nil))))))) rfl fun _ => ⟨.nil, Nat.zero_le _⟩))
def F_fewest_keys : List D → Rs D
  | [vnet, vstanding, vone, vother] => runM (q_fewest_keys vnet vstanding vone vother)
  | _ => .st
theorem shL_fewest_keys (k : Nat) : ∀ ds : List D, Sh 0 (callK Ir.T (k + 9) "fewest_keys" ds) (F_fewest_keys ds)
  | [vnet, vstanding, vone, vother] => sh_fewest_keys k vnet vstanding vone vother
  | [] => trivial
  | [_] => trivial
  | [_, _] => trivial
  | [_, _, _] => trivial
  | _ :: _ :: _ :: _ :: _ :: _ => trivial
theorem T_most_keys : Ir.T "most_keys" = some Ir.f_most_keys := rfl
theorem md_most_keys (k : Nat) : (orc Ir.T k).modes "most_keys" = some [.sh, .sh, .sh, .sh] := orc_modes T_most_keys k
def q_most_keys (vnet vstanding vone vother : D) : Mx Unit (Oc Unit Empty) := bd (callM F_check_ends [(pv vnet), (pv vstanding), (pv vone), (pv vother)]) fun _ => rtM (opM 0 .add (callM F_keys_in [(pv vnet), (pv vstanding), (pv vone), (pv vother)]) (callM F_lead_in [(pv vnet), (pv vstanding), (pv vother), (pv vone)]))
theorem sh_most_keys (k : Nat) (vnet vstanding vone vother : D) : Sh 0 (callK Ir.T (k + 9) "most_keys" [vnet, vstanding, vone, vother]) (runM (q_most_keys vnet vstanding vone vother)) :=
  sh_fn (k := k + 8) (π := fun s => [.v 0 vnet, .v 0 vstanding, .v 0 vone, .v 0 vother]) T_most_keys ⟨rfl, Nat.le_of_ble_eq_true rfl⟩ rfl (fun _ => rfl) (.expr (.call (md_check_ends _) (shL_check_ends (k + 0)) (.cons (.of (.var0 fun _ => rfl)) (.cons (.of (.var0 fun _ => rfl)) (.cons (.of (.var0 fun _ => rfl)) (.cons (.of (.var0 fun _ => rfl)) .nil))))) (.ret (.of (.op (.call (md_keys_in _) (shL_keys_in (k + 6)) (.cons (.of (.var0 fun _ => rfl)) (.cons (.of (.var0 fun _ => rfl)) (.cons (.of (.var0 fun _ => rfl)) (.cons (.of (.var0 fun _ => rfl)) .nil))))) (.call (md_lead_in _) (shL_lead_in (k + 3)) (.cons (.of (.var0 fun _ => rfl)) (.cons (.of (.var0 fun _ => rfl)) (.cons (.of (.var0 fun _ => rfl)) (.cons (.of (.var0 fun _ => rfl)) .nil))))))) rfl fun _ => ⟨.nil, Nat.zero_le _⟩))
def F_most_keys : List D → Rs D
  | [vnet, vstanding, vone, vother] => runM (q_most_keys vnet vstanding vone vother)
  | _ => .st
theorem shL_most_keys (k : Nat) : ∀ ds : List D, Sh 0 (callK Ir.T (k + 9) "most_keys" ds) (F_most_keys ds)
  | [vnet, vstanding, vone, vother] => sh_most_keys k vnet vstanding vone vother
  | [] => trivial
  | [_] => trivial
  | [_, _] => trivial
  | [_, _, _] => trivial
  | _ :: _ :: _ :: _ :: _ :: _ => trivial
theorem T__law_hash : Ir.T "_law_hash" = some Ir.f__law_hash := rfl
theorem md__law_hash (k : Nat) : (orc Ir.T k).modes "_law_hash" = some [.sh, .sh] := orc_modes T__law_hash k
def q__law_hash (vseed vindex : D) : Mx Unit (Oc Unit Empty) := bd (opM 0 .mod (b1M 0 .int (opM 0 .add (opM 0 .add (opM 0 .add (opM 0 .mul (pv vseed) (pv (.int 1140671))) (opM 0 .mul (opM 0 .mul (pv (.int 27644437)) (pv vindex)) (pv vindex))) (opM 0 .mul (pv (.int 131)) (pv vindex))) (pv (.int 19)))) (pv (.int 2147483629))) fun vmixed => bd (opM 0 .mod (b1M 0 .int (opM 0 .add (opM 0 .add (opM 0 .mul (pv vmixed) (pv vmixed)) (opM 0 .mul (pv (.int 62089)) (pv vindex))) (pv (.int 32416187)))) (pv (.int 2147483587))) fun vmixed => rtM (opM 0 .mod (b1M 0 .int (opM 0 .mul (pv vmixed) (pv (.int 48271)))) (pv (.int 2147483647)))
theorem sh__law_hash (k : Nat) (vseed vindex : D) : Sh 0 (callK Ir.T (k + 1) "_law_hash" [vseed, vindex]) (runM (q__law_hash vseed vindex)) :=
  sh_fn (k := k + 0) (π := fun s => [.v 0 vseed, .v 0 vindex, .any]) T__law_hash ⟨rfl, Nat.le_of_ble_eq_true rfl⟩ rfl (fun _ => rfl) (.asg (.of (.op (.b1 (.op (.op (.op (.op (.var0 fun _ => rfl) .cst) (.op (.op .cst (.var0 fun _ => rfl)) (.var0 fun _ => rfl))) (.op .cst (.var0 fun _ => rfl))) .cst)) .cst)) rfl zk fun vmixed => .pat (π1 := fun s => [.v 0 vseed, .v 0 vindex, .v 0 vmixed]) (fun _ => rfl) (.asg (.of (.op (.b1 (.op (.op (.op (.var0 fun _ => rfl) (.var0 fun _ => rfl)) (.op .cst (.var0 fun _ => rfl))) .cst)) .cst)) rfl zk fun vmixed => .pat (π1 := fun s => [.v 0 vseed, .v 0 vindex, .v 0 vmixed]) (fun _ => rfl) (.ret (.of (.op (.b1 (.op (.var0 fun _ => rfl) .cst)) .cst)) rfl fun _ => ⟨.nil, Nat.zero_le _⟩)))
def F__law_hash : List D → Rs D
  | [vseed, vindex] => runM (q__law_hash vseed vindex)
  | _ => .st
theorem shL__law_hash (k : Nat) : ∀ ds : List D, Sh 0 (callK Ir.T (k + 1) "_law_hash" ds) (F__law_hash ds)
  | [vseed, vindex] => sh__law_hash k vseed vindex
  | [] => trivial
  | [_] => trivial
  | _ :: _ :: _ :: _ => trivial
theorem T__law_random : Ir.T "_law_random" = some Ir.f__law_random := rfl
theorem md__law_random (k : Nat) : (orc Ir.T k).modes "_law_random" = some [.io 1, .sh] := orc_modes T__law_random k
def l__law_random_0 (vbound : D) (r2 : D) (r1 : D) : Mx D (Oc (D) (D)) := setS (opM 0 .add (ixS (pv (.int 2))) (pv (.int 1))) (pv (.int 2)) (bd (opM 0 .add (opM 0 .mul (pv r1) (pv (.int 2147483587))) (callM F__law_hash [(ixS (pv (.int 1))), (ixS (pv (.int 2)))])) fun vdrawn_here => nxM (vdrawn_here))
theorem hl__law_random_0 (k : Nat) (vbound : D) (r2 : D) (r1 : D) : TB Ir.f__law_random.gam (.name 3) (fun s => [.v 1 s, .v 0 vbound, .v 0 r1, .any]) r2 (l__law_random_0 vbound r2 r1) (fun π2 m => XS (orc Ir.T (k + 1)) Ir.f__law_random.gam 0 (fun (r1 : D) => fun s => [.v 1 s, .v 0 vbound, .v 0 r1, .any]) (fun (r1 : D) => fun s => [.v 1 s, .v 0 vbound, .v 0 r1, .any]) (fun s => [.v 1 s]) π2 Ir.b__law_random_0 m) := .name rfl (.pat (π1 := fun s => [.v 1 s, .v 0 vbound, .v 0 r1, .v 0 r2]) (fun _ => rfl) (.setS (fun _ => rfl) (fun _ _ => rfl) (.of (.op (.ixS (fun _ => rfl) .cst) .cst)) .cst (.asg (.of (.op (.op (.var0 fun _ => rfl) .cst) (.call (md__law_hash _) (shL__law_hash (k + 0)) (.cons (.of (.ixS (fun _ => rfl) .cst)) (.cons (.of (.ixS (fun _ => rfl) .cst)) .nil))))) rfl zk fun vdrawn_here => .pat (π1 := fun s => [.v 1 s, .v 0 vbound, .v 0 vdrawn_here, .v 0 r2]) (fun _ => rfl) (.nil fun _ => ⟨(.v (.v (.v (.any .nil)))), Nat.le_refl _⟩))))
def q__law_random (vbound : D) : Mx D (Oc Unit Empty) := iteM (tsM (cmpM .gt (ixS (pv (.int 0))) (pv (.int 0)))) (bd (opM 0 .mod (b1M 0 .int (ixS (pv (.int 0)))) (pv vbound)) fun vdrawn_here => setS (opM 0 .fdiv (ixS (pv (.int 0))) (pv vbound)) (pv (.int 0)) (rtM (pv vdrawn_here))) (bd (pv (.int 0)) fun vdrawn_here => sqO (forM (rg1 (opM 0 .add (pv (.int 1)) (opM 0 .fdiv (b1M 0 .bitlen (pv vbound)) (pv (.int 30))))) ((vdrawn_here) : D) (l__law_random_0 vbound)) fun r1 => rtM (opM 0 .mod (b1M 0 .int (pv r1)) (pv vbound)))
theorem sh__law_random (k : Nat) (s : D) (vbound : D) : ShG 0 (callK Ir.T (k + 2) "_law_random" (s :: [vbound])) (runG (q__law_random vbound) s) :=
  shG_fn (k := k + 1) (π := fun s => [.v 1 s, .v 0 vbound, .any, .any]) T__law_random rfl ⟨rfl, Nat.le_of_ble_eq_true rfl⟩ rfl (fun _ => rfl) (.ifs (.of (.cmp (.ixS (fun _ => rfl) .cst) .cst)) (.asg (.of (.op (.b1 (.ixS (fun _ => rfl) .cst)) (.var0 fun _ => rfl))) rfl zk fun vdrawn_here => .pat (π1 := fun s => [.v 1 s, .v 0 vbound, .v 0 vdrawn_here, .any]) (fun _ => rfl) (.setS (fun _ => rfl) (fun _ _ => rfl) (.of (.op (.ixS (fun _ => rfl) .cst) (.var0 fun _ => rfl))) .cst (.ret (.of (.var0 fun _ => rfl)) rfl fun _ => ⟨.v .nil, Nat.le_of_ble_eq_true rfl⟩))) (.asg (.of .cst) rfl zk fun vdrawn_here => .pat (π1 := fun s => [.v 1 s, .v 0 vbound, .v 0 vdrawn_here, .any]) (fun _ => rfl) (.for_ (πj := fun (r1 : D) => fun s => [.v 1 s, .v 0 vbound, .v 0 r1, .any]) (.range1 (.op .cst (.op (.b1 (.var0 fun _ => rfl)) .cst))) (fun _ => ⟨(.v (.v (.v (.any .nil)))), Nat.le_refl _⟩) (hl__law_random_0 _ vbound) fun r1 => .ret (.of (.op (.b1 (.var0 fun _ => rfl)) (.var0 fun _ => rfl))) rfl fun _ => ⟨.v .nil, Nat.le_of_ble_eq_true rfl⟩)))
def F__law_random : D → List D → Rs (D × D)
  | s, [vbound] => runG (q__law_random vbound) s
  | _, _ => .st
theorem shL__law_random (k : Nat) : ∀ (s : D) (ds : List D), ShG 0 (callK Ir.T (k + 2) "_law_random" (s :: ds)) (F__law_random s ds)
  | s, [vbound] => sh__law_random k s vbound
  | _, [] => trivial
  | _, _ :: _ :: _ => trivial
theorem T__law_cell : Ir.T "_law_cell" = some Ir.f__law_cell := rfl
theorem md__law_cell (k : Nat) : (orc Ir.T k).modes "_law_cell" = some [.sh, .sh] := orc_modes T__law_cell k
def q__law_cell (vscript vindex : D) : Mx Unit (Oc Unit Empty) := iteM (tsM (cmpM .lt (pv vindex) (b1M 0 .len (pv vscript)))) (rtM (ixM (pv vscript) (pv vindex))) (rtM (opM 0 .mod (b1M 0 .sum (slM 0 (pv vscript) noP (exP (pv (.int 1))))) (pv (.int 1000003))))
theorem sh__law_cell (k : Nat) (vscript vindex : D) : Sh 0 (callK Ir.T (k + 1) "_law_cell" [vscript, vindex]) (runM (q__law_cell vscript vindex)) :=
  sh_fn (k := k + 0) (π := fun s => [.v 0 vscript, .v 0 vindex]) T__law_cell ⟨rfl, Nat.le_of_ble_eq_true rfl⟩ rfl (fun _ => rfl) (.ifs (.of (.cmp (.var0 fun _ => rfl) (.b1 (.var0 fun _ => rfl)))) (.ret (.of (.ix (.var0 fun _ => rfl) (.var0 fun _ => rfl))) rfl fun _ => ⟨.nil, Nat.zero_le _⟩) (.ret (.of (.op (.b1 (.sl (.var0 fun _ => rfl) .no (.ex .cst))) .cst)) rfl fun _ => ⟨.nil, Nat.zero_le _⟩))
def F__law_cell : List D → Rs D
  | [vscript, vindex] => runM (q__law_cell vscript vindex)
  | _ => .st
theorem shL__law_cell (k : Nat) : ∀ ds : List D, Sh 0 (callK Ir.T (k + 1) "_law_cell" ds) (F__law_cell ds)
  | [vscript, vindex] => sh__law_cell k vscript vindex
  | [] => trivial
  | [_] => trivial
  | _ :: _ :: _ :: _ => trivial
theorem T__law_generator : Ir.T "_law_generator" = some Ir.f__law_generator := rfl
theorem md__law_generator (k : Nat) : (orc Ir.T k).modes "_law_generator" = some [.sh, .sh] := orc_modes T__law_generator k
def q__law_generator (vscript vindex : D) : Mx Unit (Oc Unit Empty) := bd (callM F__law_cell [(pv vscript), (pv vindex)]) fun vseed => rtM (lstM [(opM 0 .mod (b1M 0 .int (b2M .max (opM 0 .sub (pv vseed) (opM 0 .pow (pv (.int 10)) (pv (.int 18)))) (pv (.int 0)))) (opM 0 .pow (opM 0 .pow (pv (.int 10)) (pv (.int 60))) (pv (.int 10)))), (opM 0 .mod (b1M 0 .int (pv vseed)) (pv (.int 2147483647))), (opM 0 .mul (pv (.int 1000)) (pv vindex))])
theorem sh__law_generator (k : Nat) (vscript vindex : D) : Sh 1 (callK Ir.T (k + 2) "_law_generator" [vscript, vindex]) (runM (q__law_generator vscript vindex)) :=
  sh_fn (k := k + 1) (π := fun s => [.v 0 vscript, .v 0 vindex, .any]) T__law_generator ⟨rfl, Nat.le_of_ble_eq_true rfl⟩ rfl (fun _ => rfl) (.asg (.of (.call (md__law_cell _) (shL__law_cell (k + 0)) (.cons (.of (.var0 fun _ => rfl)) (.cons (.of (.var0 fun _ => rfl)) .nil)))) rfl zk fun vseed => .pat (π1 := fun s => [.v 0 vscript, .v 0 vindex, .v 0 vseed]) (fun _ => rfl) (.ret (.of (.lst (.cons (.of (.op (.b1 (.b2 (.op (.var0 fun _ => rfl) (.op .cst .cst)) .cst)) (.op (.op .cst .cst) .cst))) (.cons (.of (.op (.b1 (.var0 fun _ => rfl)) .cst)) (.cons (.of (.op .cst (.var0 fun _ => rfl))) .nil))))) rfl fun _ => ⟨.nil, Nat.zero_le _⟩))
def F__law_generator : List D → Rs D
  | [vscript, vindex] => runM (q__law_generator vscript vindex)
  | _ => .st
theorem shL__law_generator (k : Nat) : ∀ ds : List D, Sh 1 (callK Ir.T (k + 2) "_law_generator" ds) (F__law_generator ds)
  | [vscript, vindex] => sh__law_generator k vscript vindex
  | [] => trivial
  | [_] => trivial
  | _ :: _ :: _ :: _ => trivial
theorem T__law_net : Ir.T "_law_net" = some Ir.f__law_net := rfl
theorem md__law_net (k : Nat) : (orc Ir.T k).modes "_law_net" = some [.io 1, .sh, .sh] := orc_modes T__law_net k
def l__law_net_0 (vmost : D) (vkeys : D) (vhouses : D) (vlow : D) (r4 : D) (r3 : D) : Mx D (Oc (D) (D)) := iteM (tsM (cmpM .gt (callG F__law_random [(pv (.int 3))]) (pv (.int 0)))) (appM r3 (tupM [(pv vlow), (pv r4), (opM 0 .add (pv (.int 1)) (callG F__law_random [(pv vkeys)]))]) fun vroads => nxM (vroads)) (nxM (r3))
theorem hl__law_net_0 (k : Nat) (vmost : D) (vkeys : D) (vhouses : D) (vlow : D) (r4 : D) (r3 : D) : TB Ir.f__law_net.gam (.name 6) (fun s => [.v 1 s, .v 0 vmost, .v 0 vkeys, .v 0 vhouses, .v 1 r3, .v 0 vlow, .any]) r4 (l__law_net_0 vmost vkeys vhouses vlow r4 r3) (fun π2 m => XS (orc Ir.T (k + 2)) Ir.f__law_net.gam 0 (fun (r3 : D) => fun s => [.v 1 s, .v 0 vmost, .v 0 vkeys, .v 0 vhouses, .v 1 r3, .v 0 vlow, .any]) (fun (r3 : D) => fun s => [.v 1 s, .v 0 vmost, .v 0 vkeys, .v 0 vhouses, .v 1 r3, .v 0 vlow, .any]) (fun s => [.v 1 s]) π2 Ir.b__law_net_0 m) := .name rfl (.pat (π1 := fun s => [.v 1 s, .v 0 vmost, .v 0 vkeys, .v 0 vhouses, .v 1 r3, .v 0 vlow, .v 0 r4]) (fun _ => rfl) (.ifs (.of (.cmp (.callG (md__law_random _) (shL__law_random (k + 0)) (fun _ => rfl) (fun _ _ => rfl) (.cons (.of .cst) .nil)) .cst)) (.app (fun _ => rfl) (.of (.tup (.cons (.of (.var0 fun _ => rfl)) (.cons (.of (.var0 fun _ => rfl)) (.cons (.of (.op .cst (.callG (md__law_random _) (shL__law_random (k + 0)) (fun _ => rfl) (fun _ _ => rfl) (.cons (.of (.var0 fun _ => rfl)) .nil)))) .nil))))) (fun _ => rfl) fun vroads => .pat (π1 := fun s => [.v 1 s, .v 0 vmost, .v 0 vkeys, .v 0 vhouses, .v 1 vroads, .v 0 vlow, .v 0 r4]) (fun _ => rfl) (.nil fun _ => ⟨(.v (.v (.v (.v (.v (.v (.any .nil))))))), Nat.le_refl _⟩)) (.nil fun _ => ⟨(.v (.v (.v (.v (.v (.v (.any .nil))))))), Nat.le_refl _⟩)))
def l__law_net_1 (vmost : D) (vkeys : D) (vhouses : D) (r2 : D) (r1 : D) : Mx D (Oc (D) (D)) := sqO (forM (rg2 (opM 0 .add (pv r2) (pv (.int 1))) (pv vhouses)) ((r1) : D) (l__law_net_0 vmost vkeys vhouses r2)) fun r3 => nxM (r3)
theorem hl__law_net_1 (k : Nat) (vmost : D) (vkeys : D) (vhouses : D) (r2 : D) (r1 : D) : TB Ir.f__law_net.gam (.name 5) (fun s => [.v 1 s, .v 0 vmost, .v 0 vkeys, .v 0 vhouses, .v 1 r1, .any, .any]) r2 (l__law_net_1 vmost vkeys vhouses r2 r1) (fun π2 m => XS (orc Ir.T (k + 2)) Ir.f__law_net.gam 0 (fun (r1 : D) => fun s => [.v 1 s, .v 0 vmost, .v 0 vkeys, .v 0 vhouses, .v 1 r1, .any, .any]) (fun (r1 : D) => fun s => [.v 1 s, .v 0 vmost, .v 0 vkeys, .v 0 vhouses, .v 1 r1, .any, .any]) (fun s => [.v 1 s]) π2 Ir.b__law_net_1 m) := .name rfl (.pat (π1 := fun s => [.v 1 s, .v 0 vmost, .v 0 vkeys, .v 0 vhouses, .v 1 r1, .v 0 r2, .any]) (fun _ => rfl) (.for_ (πj := fun (r3 : D) => fun s => [.v 1 s, .v 0 vmost, .v 0 vkeys, .v 0 vhouses, .v 1 r3, .v 0 r2, .any]) (.range2 (.op (.var0 fun _ => rfl) .cst) (.var0 fun _ => rfl)) (fun _ => ⟨(.v (.v (.v (.v (.v (.v (.any .nil))))))), Nat.le_refl _⟩) (hl__law_net_0 _ vmost vkeys vhouses r2) fun r3 => .nil fun _ => ⟨(.v (.v (.v (.v (.v (.any (.any .nil))))))), Nat.le_refl _⟩))
def q__law_net (vmost vkeys : D) : Mx D (Oc Unit Empty) := bd (opM 0 .add (pv (.int 1)) (callG F__law_random [(pv vmost)])) fun vhouses => bd (lstM []) fun vroads => sqO (forM (rg1 (pv vhouses)) ((vroads) : D) (l__law_net_1 vmost vkeys vhouses)) fun r1 => rtM (tupM [(pv vhouses), (pv r1)])
theorem sh__law_net (k : Nat) (s : D) (vmost vkeys : D) : ShG 0 (callK Ir.T (k + 3) "_law_net" (s :: [vmost, vkeys])) (runG (q__law_net vmost vkeys) s) :=
  shG_fn (k := k + 2) (π := fun s => [.v 1 s, .v 0 vmost, .v 0 vkeys, .any, .any, .any, .any]) T__law_net rfl ⟨rfl, Nat.le_of_ble_eq_true rfl⟩ rfl (fun _ => rfl) (.tas2 (.of (.op .cst (.callG (md__law_random _) (shL__law_random (k + 0)) (fun _ => rfl) (fun _ _ => rfl) (.cons (.of (.var0 fun _ => rfl)) .nil)))) (.of (.lst .nil)) rfl rfl zk ok1 fun vhouses vroads => .pat (π1 := fun s => [.v 1 s, .v 0 vmost, .v 0 vkeys, .v 0 vhouses, .v 1 vroads, .any, .any]) (fun _ => rfl) (.for_ (πj := fun (r1 : D) => fun s => [.v 1 s, .v 0 vmost, .v 0 vkeys, .v 0 vhouses, .v 1 r1, .any, .any]) (.range1 (.var0 fun _ => rfl)) (fun _ => ⟨(.v (.v (.v (.v (.v (.any (.any .nil))))))), Nat.le_refl _⟩) (hl__law_net_1 _ vmost vkeys vhouses) fun r1 => .ret (.of (.tup (.cons (.of (.var0 fun _ => rfl)) (.cons (.own fun _ => rfl) .nil)))) rfl fun _ => ⟨.v .nil, Nat.le_of_ble_eq_true rfl⟩))
def F__law_net : D → List D → Rs (D × D)
  | s, [vmost, vkeys] => runG (q__law_net vmost vkeys) s
  | _, _ => .st
theorem shL__law_net (k : Nat) : ∀ (s : D) (ds : List D), ShG 0 (callK Ir.T (k + 3) "_law_net" (s :: ds)) (F__law_net s ds)
  | s, [vmost, vkeys] => sh__law_net k s vmost vkeys
  | _, [] => trivial
  | _, [_] => trivial
  | _, _ :: _ :: _ :: _ => trivial
theorem T__law_standing : Ir.T "_law_standing" = some Ir.f__law_standing := rfl
theorem md__law_standing (k : Nat) : (orc Ir.T k).modes "_law_standing" = some [.io 1, .sh] := orc_modes T__law_standing k
def q__law_standing (vhere : D) : Mx D (Oc Unit Empty) := rtM (compM (seqI (ixM (pv vhere) (pv (.int 1)))) fun r1 => un3 r1 fun vlow vhigh vmany => allM (callG F__law_random [(opM 0 .add (pv vmany) (pv (.int 1)))]))
theorem sh__law_standing (k : Nat) (s : D) (vhere : D) : ShG 0 (callK Ir.T (k + 3) "_law_standing" (s :: [vhere])) (runG (q__law_standing vhere) s) :=
  shG_fn (k := k + 2) (π := fun s => [.v 1 s, .v 0 vhere, .any, .any, .any]) T__law_standing rfl ⟨rfl, Nat.le_of_ble_eq_true rfl⟩ rfl (fun _ => rfl) (.ret (.of (.n0 (.comp (.seq (.of (.ix (.var0 fun _ => rfl) .cst))) (fun _ => rfl) fun r1 => .un3 fun vlow vhigh vmany => .name rfl (.name rfl (.name rfl (.all (.of (.callG (md__law_random _) (shL__law_random (k + 0)) (fun _ => rfl) (fun _ _ => rfl) (.cons (.of (.op (.var0 fun _ => rfl) .cst)) .nil))) (fun _ => rfl))))) rfl Nat.one_pos)) rfl fun _ => ⟨.v .nil, Nat.le_of_ble_eq_true rfl⟩)
def F__law_standing : D → List D → Rs (D × D)
  | s, [vhere] => runG (q__law_standing vhere) s
  | _, _ => .st
theorem shL__law_standing (k : Nat) : ∀ (s : D) (ds : List D), ShG 0 (callK Ir.T (k + 3) "_law_standing" (s :: ds)) (F__law_standing s ds)
  | s, [vhere] => sh__law_standing k s vhere
  | _, [] => trivial
  | _, _ :: _ :: _ => trivial
theorem T__law_drawn : Ir.T "_law_drawn" = some Ir.f__law_drawn := rfl
theorem md__law_drawn (k : Nat) : (orc Ir.T k).modes "_law_drawn" = some [.io 1, .sh, .sh] := orc_modes T__law_drawn k
def q__law_drawn (vmost vkeys : D) : Mx D (Oc Unit Empty) := bd (callG F__law_net [(pv vmost), (pv vkeys)]) fun vhere => rtM (lstM [(pv vhere), (callG F__law_standing [(pv vhere)])])
theorem sh__law_drawn (k : Nat) (s : D) (vmost vkeys : D) : ShG 0 (callK Ir.T (k + 4) "_law_drawn" (s :: [vmost, vkeys])) (runG (q__law_drawn vmost vkeys) s) :=
  shG_fn (k := k + 3) (π := fun s => [.v 1 s, .v 0 vmost, .v 0 vkeys, .any]) T__law_drawn rfl ⟨rfl, Nat.le_of_ble_eq_true rfl⟩ rfl (fun _ => rfl) (.asg (.of (.callG (md__law_net _) (shL__law_net (k + 0)) (fun _ => rfl) (fun _ _ => rfl) (.cons (.of (.var0 fun _ => rfl)) (.cons (.of (.var0 fun _ => rfl)) .nil)))) rfl zk fun vhere => .pat (π1 := fun s => [.v 1 s, .v 0 vmost, .v 0 vkeys, .v 0 vhere]) (fun _ => rfl) (.ret (.of (.n0 (.lst (.cons (.of (.var0 fun _ => rfl)) (.cons (.of (.callG (md__law_standing _) (shL__law_standing (k + 0)) (fun _ => rfl) (fun _ _ => rfl) (.cons (.of (.var0 fun _ => rfl)) .nil))) .nil))) rfl Nat.one_pos)) rfl fun _ => ⟨.v .nil, Nat.le_of_ble_eq_true rfl⟩))
def F__law_drawn : D → List D → Rs (D × D)
  | s, [vmost, vkeys] => runG (q__law_drawn vmost vkeys) s
  | _, _ => .st
theorem shL__law_drawn (k : Nat) : ∀ (s : D) (ds : List D), ShG 0 (callK Ir.T (k + 4) "_law_drawn" (s :: ds)) (F__law_drawn s ds)
  | s, [vmost, vkeys] => sh__law_drawn k s vmost vkeys
  | _, [] => trivial
  | _, [_] => trivial
  | _, _ :: _ :: _ :: _ => trivial
theorem T__law_k : Ir.T "_law_k" = some Ir.f__law_k := rfl
theorem md__law_k (k : Nat) : (orc Ir.T k).modes "_law_k" = some [.sh, .sh, .sh, .sh] := orc_modes T__law_k k
def l__law_k_0 (vhere : D) (vstand : D) (vone : D) (vother : D) (r2 : D) (r1 : Unit) : Mx Unit (Oc (Unit) (Unit)) := un2 r2 fun vroad vitem => iteM (tsM (cmpM .eq (slM 0 (pv vroad) noP (exP (pv (.int 2)))) (tupM [(b2M .min (pv vone) (pv vother)), (b2M .max (pv vone) (pv vother))]))) (rtM (iteM (tsM (cmpM .gt (pv vother) (pv vone))) (pv vitem) (opM 0 .sub (ixM (pv vroad) (pv (.int 2))) (pv vitem)))) (nxM ())
theorem hl__law_k_0 (k : Nat) (vhere : D) (vstand : D) (vone : D) (vother : D) (r2 : D) (r1 : Unit) : TB Ir.f__law_k.gam (.tup (.cons (.name 4) (.cons (.name 5) .nil))) (fun s => [.v 0 vhere, .v 0 vstand, .v 0 vone, .v 0 vother, .any, .any]) r2 (l__law_k_0 vhere vstand vone vother r2 r1) (fun π2 m => XS (orc Ir.T (k + 0)) Ir.f__law_k.gam 0 (fun (r1 : Unit) => fun s => [.v 0 vhere, .v 0 vstand, .v 0 vone, .v 0 vother, .any, .any]) (fun (r1 : Unit) => fun s => [.v 0 vhere, .v 0 vstand, .v 0 vone, .v 0 vother, .any, .any]) (fun _ => []) π2 Ir.b__law_k_0 m) := .un2 fun vroad vitem => .name rfl (.name rfl (.pat (π1 := fun s => [.v 0 vhere, .v 0 vstand, .v 0 vone, .v 0 vother, .v 0 vroad, .v 0 vitem]) (fun _ => rfl) (.ifs (.of (.cmp (.sl (.var0 fun _ => rfl) .no (.ex .cst)) (.tup (.cons (.of (.b2 (.var0 fun _ => rfl) (.var0 fun _ => rfl))) (.cons (.of (.b2 (.var0 fun _ => rfl) (.var0 fun _ => rfl))) .nil))))) (.ret (.of (.ife (.of (.cmp (.var0 fun _ => rfl) (.var0 fun _ => rfl))) (.var0 fun _ => rfl) (.op (.ix (.var0 fun _ => rfl) .cst) (.var0 fun _ => rfl)))) rfl fun _ => ⟨.nil, Nat.zero_le _⟩) (.nil fun _ => ⟨(.v (.v (.v (.v (.any (.any .nil)))))), Nat.le_refl _⟩))))
def q__law_k (vhere vstand vone vother : D) : Mx Unit (Oc Unit Empty) := sqO (forM (zpI (ixM (pv vhere) (pv (.int 1))) (pv vstand)) (() : Unit) (l__law_k_0 vhere vstand vone vother)) fun r1 => rtM (pv .none)
theorem sh__law_k (k : Nat) (vhere vstand vone vother : D) : Sh 0 (callK Ir.T (k + 1) "_law_k" [vhere, vstand, vone, vother]) (runM (q__law_k vhere vstand vone vother)) :=
  sh_fn (k := k + 0) (π := fun s => [.v 0 vhere, .v 0 vstand, .v 0 vone, .v 0 vother, .any, .any]) T__law_k ⟨rfl, Nat.le_of_ble_eq_true rfl⟩ rfl (fun _ => rfl) (.for_ (πj := fun (r1 : Unit) => fun s => [.v 0 vhere, .v 0 vstand, .v 0 vone, .v 0 vother, .any, .any]) (.zip (.of (.ix (.var0 fun _ => rfl) .cst)) (.of (.var0 fun _ => rfl))) (fun _ => ⟨(.v (.v (.v (.v (.any (.any .nil)))))), Nat.le_refl _⟩) (hl__law_k_0 _ vhere vstand vone vother) fun r1 => .ret (.of .cst) rfl fun _ => ⟨.nil, Nat.zero_le _⟩)
def F__law_k : List D → Rs D
  | [vhere, vstand, vone, vother] => runM (q__law_k vhere vstand vone vother)
  | _ => .st
theorem shL__law_k (k : Nat) : ∀ ds : List D, Sh 0 (callK Ir.T (k + 1) "_law_k" ds) (F__law_k ds)
  | [vhere, vstand, vone, vother] => sh__law_k k vhere vstand vone vother
  | [] => trivial
  | [_] => trivial
  | [_, _] => trivial
  | [_, _, _] => trivial
  | _ :: _ :: _ :: _ :: _ :: _ => trivial
theorem T__law_mates : Ir.T "_law_mates" = some Ir.f__law_mates := rfl
theorem md__law_mates (k : Nat) : (orc Ir.T k).modes "_law_mates" = some [.sh, .sh] := orc_modes T__law_mates k
def q__law_mates (vhere vhouse_there : D) : Mx Unit (Oc Unit Empty) := rtM (compM (rg1 (ixM (pv vhere) (pv (.int 0)))) fun r1 => keepM (andM (cmpM .ne (pv r1) (pv vhouse_there)) (cmpM .ne (compM (seqI (ixM (pv vhere) (pv (.int 1)))) fun r2 => keepM (cmpM .eq (slM 0 (pv r2) noP (exP (pv (.int 2)))) (tupM [(b2M .min (pv r1) (pv vhouse_there)), (b2M .max (pv r1) (pv vhouse_there))])) (pv (.int 1))) (lstM []))) (pv r1))
theorem sh__law_mates (k : Nat) (vhere vhouse_there : D) : Sh 0 (callK Ir.T (k + 1) "_law_mates" [vhere, vhouse_there]) (runM (q__law_mates vhere vhouse_there)) :=
  sh_fn (k := k + 0) (π := fun s => [.v 0 vhere, .v 0 vhouse_there, .any, .any]) T__law_mates ⟨rfl, Nat.le_of_ble_eq_true rfl⟩ rfl (fun _ => rfl) (.ret (.of (.n0 (.comp (.range1 (.ix (.var0 fun _ => rfl) .cst)) (fun _ => rfl) fun r1 => .name rfl (.keep (.and (.cmp (.var0 fun _ => rfl) (.var0 fun _ => rfl)) (.cmp (.n0 (.comp (.seq (.of (.ix (.var0 fun _ => rfl) .cst))) (fun _ => rfl) fun r2 => .name rfl (.keep (.cmp (.sl (.var0 fun _ => rfl) .no (.ex .cst)) (.tup (.cons (.of (.b2 (.var0 fun _ => rfl) (.var0 fun _ => rfl))) (.cons (.of (.b2 (.var0 fun _ => rfl) (.var0 fun _ => rfl))) .nil)))) (.of .cst) (fun _ => rfl))) rfl Nat.one_pos) (.n0 (.lst .nil) rfl Nat.one_pos))) (.of (.var0 fun _ => rfl)) (fun _ => rfl))) rfl Nat.one_pos)) rfl fun _ => ⟨.nil, Nat.zero_le _⟩)
def F__law_mates : List D → Rs D
  | [vhere, vhouse_there] => runM (q__law_mates vhere vhouse_there)
  | _ => .st
theorem shL__law_mates (k : Nat) : ∀ ds : List D, Sh 0 (callK Ir.T (k + 1) "_law_mates" ds) (F__law_mates ds)
  | [vhere, vhouse_there] => sh__law_mates k vhere vhouse_there
  | [] => trivial
  | [_] => trivial
  | _ :: _ :: _ :: _ => trivial
theorem T__law_can : Ir.T "_law_can" = some Ir.f__law_can := rfl
theorem md__law_can (k : Nat) : (orc Ir.T k).modes "_law_can" = some [.sh, .sh, .sh] := orc_modes T__law_can k
def q__law_can (vhere vstand vhouse_there : D) : Mx Unit (Oc Unit Empty) := rtM (cmpM .eq (compM (seqI (callM F__law_mates [(pv vhere), (pv vhouse_there)])) fun r1 => keepM (cmpM .eq (callM F__law_k [(pv vhere), (pv vstand), (pv r1), (pv vhouse_there)]) (pv (.int 0))) (pv r1)) (lstM []))
theorem sh__law_can (k : Nat) (vhere vstand vhouse_there : D) : Sh 0 (callK Ir.T (k + 2) "_law_can" [vhere, vstand, vhouse_there]) (runM (q__law_can vhere vstand vhouse_there)) :=
  sh_fn (k := k + 1) (π := fun s => [.v 0 vhere, .v 0 vstand, .v 0 vhouse_there, .any]) T__law_can ⟨rfl, Nat.le_of_ble_eq_true rfl⟩ rfl (fun _ => rfl) (.ret (.of (.cmp (.n0 (.comp (.seq (.of (.call (md__law_mates _) (shL__law_mates (k + 0)) (.cons (.of (.var0 fun _ => rfl)) (.cons (.of (.var0 fun _ => rfl)) .nil))))) (fun _ => rfl) fun r1 => .name rfl (.keep (.cmp (.call (md__law_k _) (shL__law_k (k + 0)) (.cons (.of (.var0 fun _ => rfl)) (.cons (.of (.var0 fun _ => rfl)) (.cons (.of (.var0 fun _ => rfl)) (.cons (.of (.var0 fun _ => rfl)) .nil))))) .cst) (.of (.var0 fun _ => rfl)) (fun _ => rfl))) rfl Nat.one_pos) (.n0 (.lst .nil) rfl Nat.one_pos))) rfl fun _ => ⟨.nil, Nat.zero_le _⟩)
def F__law_can : List D → Rs D
  | [vhere, vstand, vhouse_there] => runM (q__law_can vhere vstand vhouse_there)
  | _ => .st
theorem shL__law_can (k : Nat) : ∀ ds : List D, Sh 0 (callK Ir.T (k + 2) "_law_can" ds) (F__law_can ds)
  | [vhere, vstand, vhouse_there] => sh__law_can k vhere vstand vhouse_there
  | [] => trivial
  | [_] => trivial
  | [_, _] => trivial
  | _ :: _ :: _ :: _ :: _ => trivial
theorem T__law_work : Ir.T "_law_work" = some Ir.f__law_work := rfl
theorem md__law_work (k : Nat) : (orc Ir.T k).modes "_law_work" = some [.sh, .sh, .sh] := orc_modes T__law_work k
def l__law_work_0 (vhere : D) (vstand : D) (vhouse_there : D) (r2 : D) (r1 : D) : Mx Unit (Oc (D) (D)) := un2 r2 fun vroad vitem => appM r1 (iteM (tsM (cmpM .eq (ixM (pv vroad) (pv (.int 0))) (pv vhouse_there))) (opM 0 .add (pv vitem) (pv (.int 1))) (iteM (tsM (cmpM .eq (ixM (pv vroad) (pv (.int 1))) (pv vhouse_there))) (opM 0 .sub (pv vitem) (pv (.int 1))) (pv vitem))) fun vfound => nxM (vfound)
theorem hl__law_work_0 (k : Nat) (vhere : D) (vstand : D) (vhouse_there : D) (r2 : D) (r1 : D) : TB Ir.f__law_work.gam (.tup (.cons (.name 4) (.cons (.name 5) .nil))) (fun s => [.v 0 vhere, .v 0 vstand, .v 0 vhouse_there, .v 1 r1, .any, .any]) r2 (l__law_work_0 vhere vstand vhouse_there r2 r1) (fun π2 m => XS (orc Ir.T (k + 0)) Ir.f__law_work.gam 0 (fun (r1 : D) => fun s => [.v 0 vhere, .v 0 vstand, .v 0 vhouse_there, .v 1 r1, .any, .any]) (fun (r1 : D) => fun s => [.v 0 vhere, .v 0 vstand, .v 0 vhouse_there, .v 1 r1, .any, .any]) (fun _ => []) π2 Ir.b__law_work_0 m) := .un2 fun vroad vitem => .name rfl (.name rfl (.pat (π1 := fun s => [.v 0 vhere, .v 0 vstand, .v 0 vhouse_there, .v 1 r1, .v 0 vroad, .v 0 vitem]) (fun _ => rfl) (.app (fun _ => rfl) (.of (.ife (.of (.cmp (.ix (.var0 fun _ => rfl) .cst) (.var0 fun _ => rfl))) (.op (.var0 fun _ => rfl) .cst) (.ife (.of (.cmp (.ix (.var0 fun _ => rfl) .cst) (.var0 fun _ => rfl))) (.op (.var0 fun _ => rfl) .cst) (.var0 fun _ => rfl)))) (fun _ => rfl) fun vfound => .pat (π1 := fun s => [.v 0 vhere, .v 0 vstand, .v 0 vhouse_there, .v 1 vfound, .v 0 vroad, .v 0 vitem]) (fun _ => rfl) (.nil fun _ => ⟨(.v (.v (.v (.v (.any (.any .nil)))))), Nat.le_refl _⟩))))
def q__law_work (vhere vstand vhouse_there : D) : Mx Unit (Oc Unit Empty) := bd (lstM []) fun vfound => sqO (forM (zpI (ixM (pv vhere) (pv (.int 1))) (pv vstand)) ((vfound) : D) (l__law_work_0 vhere vstand vhouse_there)) fun r1 => rtM (pv r1)
theorem sh__law_work (k : Nat) (vhere vstand vhouse_there : D) : Sh 0 (callK Ir.T (k + 1) "_law_work" [vhere, vstand, vhouse_there]) (runM (q__law_work vhere vstand vhouse_there)) :=
  sh_fn (k := k + 0) (π := fun s => [.v 0 vhere, .v 0 vstand, .v 0 vhouse_there, .any, .any, .any]) T__law_work ⟨rfl, Nat.le_of_ble_eq_true rfl⟩ rfl (fun _ => rfl) (.asg (.of (.lst .nil)) rfl ok1 fun vfound => .pat (π1 := fun s => [.v 0 vhere, .v 0 vstand, .v 0 vhouse_there, .v 1 vfound, .any, .any]) (fun _ => rfl) (.for_ (πj := fun (r1 : D) => fun s => [.v 0 vhere, .v 0 vstand, .v 0 vhouse_there, .v 1 r1, .any, .any]) (.zip (.of (.ix (.var0 fun _ => rfl) .cst)) (.of (.var0 fun _ => rfl))) (fun _ => ⟨(.v (.v (.v (.v (.any (.any .nil)))))), Nat.le_refl _⟩) (hl__law_work_0 _ vhere vstand vhouse_there) fun r1 => .ret (.own fun _ => rfl) rfl fun _ => ⟨.nil, Nat.zero_le _⟩))
def F__law_work : List D → Rs D
  | [vhere, vstand, vhouse_there] => runM (q__law_work vhere vstand vhouse_there)
  | _ => .st
theorem shL__law_work (k : Nat) : ∀ ds : List D, Sh 0 (callK Ir.T (k + 1) "_law_work" ds) (F__law_work ds)
  | [vhere, vstand, vhouse_there] => sh__law_work k vhere vstand vhouse_there
  | [] => trivial
  | [_] => trivial
  | [_, _] => trivial
  | _ :: _ :: _ :: _ :: _ => trivial
theorem T__law_all : Ir.T "_law_all" = some Ir.f__law_all := rfl
theorem md__law_all (k : Nat) : (orc Ir.T k).modes "_law_all" = some [.sh, .sh] := orc_modes T__law_all k
def l__law_all_0 (vhere : D) (vstand : D) (vat : D) (r4 : D) (r3 : D) : Mx Unit (Oc (D) (D)) := iteM (tsM (callM F__law_can [(pv vhere), (ixM (pv r3) (pv vat)), (pv r4)])) (bd (callM F__law_work [(pv vhere), (ixM (pv r3) (pv vat)), (pv r4)]) fun vafter => iteM (tsM (cmpM .notin (pv vafter) (pv r3))) (appM r3 (pv vafter) fun vfound => nxM (vfound)) (nxM (r3))) (nxM (r3))
theorem hl__law_all_0 (k : Nat) (vhere : D) (vstand : D) (vat : D) (r4 : D) (r3 : D) : TB Ir.f__law_all.gam (.name 4) (fun s => [.v 0 vhere, .v 0 vstand, .v 1 r3, .v 0 vat, .any, .any]) r4 (l__law_all_0 vhere vstand vat r4 r3) (fun π2 m => XS (orc Ir.T (k + 2)) Ir.f__law_all.gam 0 (fun (r3 : D) => fun s => [.v 0 vhere, .v 0 vstand, .v 1 r3, .v 0 vat, .any, .any]) (fun (r3 : D) => fun s => [.v 0 vhere, .v 0 vstand, .v 1 r3, .v 0 vat, .any, .any]) (fun _ => []) π2 Ir.b__law_all_0 m) := .name rfl (.pat (π1 := fun s => [.v 0 vhere, .v 0 vstand, .v 1 r3, .v 0 vat, .v 0 r4, .any]) (fun _ => rfl) (.ifs (.of (.call (md__law_can _) (shL__law_can (k + 0)) (.cons (.of (.var0 fun _ => rfl)) (.cons (.of (.ix (.var1 fun _ => rfl) (.var0 fun _ => rfl))) (.cons (.of (.var0 fun _ => rfl)) .nil))))) (.asg (.of (.call (md__law_work _) (shL__law_work (k + 1)) (.cons (.of (.var0 fun _ => rfl)) (.cons (.of (.ix (.var1 fun _ => rfl) (.var0 fun _ => rfl))) (.cons (.of (.var0 fun _ => rfl)) .nil))))) rfl zk fun vafter => .pat (π1 := fun s => [.v 0 vhere, .v 0 vstand, .v 1 r3, .v 0 vat, .v 0 r4, .v 0 vafter]) (fun _ => rfl) (.ifs (.of (.cmp (.var0 fun _ => rfl) (.var1 fun _ => rfl))) (.app (fun _ => rfl) (.of (.var0 fun _ => rfl)) (fun _ => rfl) fun vfound => .pat (π1 := fun s => [.v 0 vhere, .v 0 vstand, .v 1 vfound, .v 0 vat, .v 0 r4, .v 0 vafter]) (fun _ => rfl) (.nil fun _ => ⟨(.v (.v (.v (.v (.any (.any .nil)))))), Nat.le_refl _⟩)) (.nil fun _ => ⟨(.v (.v (.v (.v (.any (.any .nil)))))), Nat.le_refl _⟩))) (.nil fun _ => ⟨(.v (.v (.v (.v (.any (.any .nil)))))), Nat.le_refl _⟩)))
def c__law_all_1 (vhere : D) (vstand : D) (r1 : D × D) : Mx Unit Bool := (tsM (cmpM .lt (pv r1.2) (b1M 0 .len (pv r1.1))))
def l__law_all_1 (vhere : D) (vstand : D) (r1 : D × D) : Mx Unit (Oc (D × D) (D × D)) := sqO (forM (rg1 (ixM (pv vhere) (pv (.int 0)))) ((r1.1) : D) (l__law_all_0 vhere vstand r1.2)) fun r3 => bd (opM 0 .add (pv r1.2) (pv (.int 1))) fun vat => nxM (r3, vat)
theorem hl__law_all_1 (k : Nat) (vhere : D) (vstand : D) (r1 : D × D) : XS (orc Ir.T (k + 2)) Ir.f__law_all.gam 0 (fun (r1 : D × D) => fun s => [.v 0 vhere, .v 0 vstand, .v 1 r1.1, .v 0 r1.2, .any, .any]) (fun (r1 : D × D) => fun s => [.v 0 vhere, .v 0 vstand, .v 1 r1.1, .v 0 r1.2, .any, .any]) (fun _ => []) (fun s => [.v 0 vhere, .v 0 vstand, .v 1 r1.1, .v 0 r1.2, .any, .any]) Ir.b__law_all_1 (l__law_all_1 vhere vstand r1) := .for_ (πj := fun (r3 : D) => fun s => [.v 0 vhere, .v 0 vstand, .v 1 r3, .v 0 r1.2, .any, .any]) (.range1 (.ix (.var0 fun _ => rfl) .cst)) (fun _ => ⟨(.v (.v (.v (.v (.any (.any .nil)))))), Nat.le_refl _⟩) (hl__law_all_0 _ vhere vstand r1.2) fun r3 => .asg (.of (.op (.var0 fun _ => rfl) .cst)) rfl zk fun vat => .pat (π1 := fun s => [.v 0 vhere, .v 0 vstand, .v 1 r3, .v 0 vat, .any, .any]) (fun _ => rfl) (.nil fun _ => ⟨(.v (.v (.v (.v (.any (.any .nil)))))), Nat.le_refl _⟩)
def q__law_all (vhere vstand : D) : Mx Unit (Oc Unit Empty) := bd (lstM [(pv vstand)]) fun vfound => bd (pv (.int 0)) fun vat => sqO (whlG (c__law_all_1 vhere vstand) (l__law_all_1 vhere vstand) 1000000 ((vfound, vat) : D × D)) fun r1 => rtM (pv r1.1)
theorem sh__law_all (k : Nat) (vhere vstand : D) : Sh 0 (callK Ir.T (k + 3) "_law_all" [vhere, vstand]) (runM (q__law_all vhere vstand)) :=
  sh_fn (k := k + 2) (π := fun s => [.v 0 vhere, .v 0 vstand, .any, .any, .any, .any]) T__law_all ⟨rfl, Nat.le_of_ble_eq_true rfl⟩ rfl (fun _ => rfl) (.tas2 (.of (.lst (.cons (.of (.var0 fun _ => rfl)) .nil))) (.of .cst) rfl rfl ok1 zk fun vfound vat => .pat (π1 := fun s => [.v 0 vhere, .v 0 vstand, .v 1 vfound, .v 0 vat, .any, .any]) (fun _ => rfl) (.whl (πj := fun (r1 : D × D) => fun s => [.v 0 vhere, .v 0 vstand, .v 1 r1.1, .v 0 r1.2, .any, .any]) (fun _ => ⟨(.v (.v (.v (.v (.any (.any .nil)))))), Nat.le_refl _⟩) (fun r1 => (.of (.cmp (.var0 fun _ => rfl) (.b1 (.var1 fun _ => rfl))))) (hl__law_all_1 _ vhere vstand) fun r1 => .ret (.own fun _ => rfl) rfl fun _ => ⟨.nil, Nat.zero_le _⟩))
def F__law_all : List D → Rs D
  | [vhere, vstand] => runM (q__law_all vhere vstand)
  | _ => .st
theorem shL__law_all (k : Nat) : ∀ ds : List D, Sh 0 (callK Ir.T (k + 3) "_law_all" ds) (F__law_all ds)
  | [vhere, vstand] => sh__law_all k vhere vstand
  | [] => trivial
  | [_] => trivial
  | _ :: _ :: _ :: _ => trivial
theorem T__law_right : Ir.T "_law_right" = some Ir.f__law_right := rfl
theorem md__law_right (k : Nat) : (orc Ir.T k).modes "_law_right" = some [.io 1] := orc_modes T__law_right k
def l__law_right_0 (vhere : D) (vstand : D) (vkept : D) (vevery : D) (vlow : D) (vhigh : D) (vmany : D) (r5 : D) (r4 : Unit) : Mx D (Oc (Unit) (Unit)) := un2 r5 fun vone vother => bd (compM (seqI (pv vevery)) fun r6 => allM (callM F__law_k [(pv vhere), (pv r6), (pv vone), (pv vother)])) fun vdue => bd (lstM [(callM F_fewest_keys [(pv vhere), (pv vstand), (pv vone), (pv vother)]), (callM F_most_keys [(pv vhere), (pv vstand), (pv vone), (pv vother)])]) fun vtold => iteM (tsM (orM (cmpM .ne (b1M 0 .repr (pv vtold)) (b1M 0 .repr (lstM [(b1M 0 .minl (pv vdue)), (b1M 0 .maxl (pv vdue))]))) (cmpM .ne (compM (rg2 (b1M 0 .minl (pv vdue)) (opM 0 .add (b1M 0 .maxl (pv vdue)) (pv (.int 1)))) fun r7 => keepM (cmpM .notin (pv r7) (pv vdue)) (pv r7)) (lstM [])))) (rtM (pv (.bool false))) (iteM (tsM (orM (cmpM .ne (opM 0 .add (ixM (pv vtold) (pv (.int 0))) (callM F_most_keys [(pv vhere), (pv vstand), (pv vother), (pv vone)])) (pv vmany)) (cmpM .ne (b1M 0 .repr (lstM [(pv vhere), (pv vstand)])) (pv vkept)))) (rtM (pv (.bool false))) (nxM ()))
theorem hl__law_right_0 (k : Nat) (vhere : D) (vstand : D) (vkept : D) (vevery : D) (vlow : D) (vhigh : D) (vmany : D) (r5 : D) (r4 : Unit) : TB Ir.f__law_right.gam (.tup (.cons (.name 8) (.cons (.name 9) .nil))) (fun s => [.v 1 s, .v 0 vhere, .v 0 vstand, .v 0 vkept, .v 0 vevery, .v 0 vlow, .v 0 vhigh, .v 0 vmany, .any, .any, .any, .any, .any]) r5 (l__law_right_0 vhere vstand vkept vevery vlow vhigh vmany r5 r4) (fun π2 m => XS (orc Ir.T (k + 9)) Ir.f__law_right.gam 0 (fun (r4 : Unit) => fun s => [.v 1 s, .v 0 vhere, .v 0 vstand, .v 0 vkept, .v 0 vevery, .v 0 vlow, .v 0 vhigh, .v 0 vmany, .any, .any, .any, .any, .any]) (fun (r4 : Unit) => fun s => [.v 1 s, .v 0 vhere, .v 0 vstand, .v 0 vkept, .v 0 vevery, .v 0 vlow, .v 0 vhigh, .v 0 vmany, .any, .any, .any, .any, .any]) (fun s => [.v 1 s]) π2 Ir.b__law_right_0 m) := .un2 fun vone vother => .name rfl (.name rfl (.pat (π1 := fun s => [.v 1 s, .v 0 vhere, .v 0 vstand, .v 0 vkept, .v 0 vevery, .v 0 vlow, .v 0 vhigh, .v 0 vmany, .v 0 vone, .v 0 vother, .any, .any, .any]) (fun _ => rfl) (.asg (.of (.n0 (.comp (.seq (.of (.var0 fun _ => rfl))) (fun _ => rfl) fun r6 => .name rfl (.all (.of (.call (md__law_k _) (shL__law_k (k + 8)) (.cons (.of (.var0 fun _ => rfl)) (.cons (.of (.var0 fun _ => rfl)) (.cons (.of (.var0 fun _ => rfl)) (.cons (.of (.var0 fun _ => rfl)) .nil)))))) (fun _ => rfl))) rfl Nat.one_pos)) rfl zk fun vdue => .pat (π1 := fun s => [.v 1 s, .v 0 vhere, .v 0 vstand, .v 0 vkept, .v 0 vevery, .v 0 vlow, .v 0 vhigh, .v 0 vmany, .v 0 vone, .v 0 vother, .v 0 vdue, .any, .any]) (fun _ => rfl) (.asg (.of (.n0 (.lst (.cons (.of (.call (md_fewest_keys _) (shL_fewest_keys (k + 0)) (.cons (.of (.var0 fun _ => rfl)) (.cons (.of (.var0 fun _ => rfl)) (.cons (.of (.var0 fun _ => rfl)) (.cons (.of (.var0 fun _ => rfl)) .nil)))))) (.cons (.of (.call (md_most_keys _) (shL_most_keys (k + 0)) (.cons (.of (.var0 fun _ => rfl)) (.cons (.of (.var0 fun _ => rfl)) (.cons (.of (.var0 fun _ => rfl)) (.cons (.of (.var0 fun _ => rfl)) .nil)))))) .nil))) rfl Nat.one_pos)) rfl zk fun vtold => .pat (π1 := fun s => [.v 1 s, .v 0 vhere, .v 0 vstand, .v 0 vkept, .v 0 vevery, .v 0 vlow, .v 0 vhigh, .v 0 vmany, .v 0 vone, .v 0 vother, .v 0 vdue, .v 0 vtold, .any]) (fun _ => rfl) (.ifs (.of (.or (.cmp (.b1 (.var0 fun _ => rfl)) (.b1 (.n0 (.lst (.cons (.of (.b1 (.var0 fun _ => rfl))) (.cons (.of (.b1 (.var0 fun _ => rfl))) .nil))) rfl Nat.one_pos))) (.cmp (.n0 (.comp (.range2 (.b1 (.var0 fun _ => rfl)) (.op (.b1 (.var0 fun _ => rfl)) .cst)) (fun _ => rfl) fun r7 => .name rfl (.keep (.cmp (.var0 fun _ => rfl) (.var0 fun _ => rfl)) (.of (.var0 fun _ => rfl)) (fun _ => rfl))) rfl Nat.one_pos) (.n0 (.lst .nil) rfl Nat.one_pos)))) (.ret (.of .cst) rfl fun _ => ⟨.v .nil, Nat.le_of_ble_eq_true rfl⟩) (.ifs (.of (.or (.cmp (.op (.ix (.var0 fun _ => rfl) .cst) (.call (md_most_keys _) (shL_most_keys (k + 0)) (.cons (.of (.var0 fun _ => rfl)) (.cons (.of (.var0 fun _ => rfl)) (.cons (.of (.var0 fun _ => rfl)) (.cons (.of (.var0 fun _ => rfl)) .nil)))))) (.var0 fun _ => rfl)) (.cmp (.b1 (.n0 (.lst (.cons (.of (.var0 fun _ => rfl)) (.cons (.of (.var0 fun _ => rfl)) .nil))) rfl Nat.one_pos)) (.var0 fun _ => rfl)))) (.ret (.of .cst) rfl fun _ => ⟨.v .nil, Nat.le_of_ble_eq_true rfl⟩) (.nil fun _ => ⟨(.v (.v (.v (.v (.v (.v (.v (.v (.any (.any (.any (.any (.any .nil))))))))))))), Nat.le_refl _⟩)))))))
def l__law_right_1 (vhere : D) (vstand : D) (vkept : D) (vevery : D) (r3 : D) (r2 : Unit) : Mx D (Oc (Unit) (Unit)) := un3 r3 fun vlow vhigh vmany => sqO (forM (seqI (lstM [(tupM [(pv vlow), (pv vhigh)]), (tupM [(pv vhigh), (pv vlow)])])) (() : Unit) (l__law_right_0 vhere vstand vkept vevery vlow vhigh vmany)) fun r4 => nxM ()
theorem hl__law_right_1 (k : Nat) (vhere : D) (vstand : D) (vkept : D) (vevery : D) (r3 : D) (r2 : Unit) : TB Ir.f__law_right.gam (.tup (.cons (.name 5) (.cons (.name 6) (.cons (.name 7) .nil)))) (fun s => [.v 1 s, .v 0 vhere, .v 0 vstand, .v 0 vkept, .v 0 vevery, .any, .any, .any, .any, .any, .any, .any, .any]) r3 (l__law_right_1 vhere vstand vkept vevery r3 r2) (fun π2 m => XS (orc Ir.T (k + 9)) Ir.f__law_right.gam 0 (fun (r2 : Unit) => fun s => [.v 1 s, .v 0 vhere, .v 0 vstand, .v 0 vkept, .v 0 vevery, .any, .any, .any, .any, .any, .any, .any, .any]) (fun (r2 : Unit) => fun s => [.v 1 s, .v 0 vhere, .v 0 vstand, .v 0 vkept, .v 0 vevery, .any, .any, .any, .any, .any, .any, .any, .any]) (fun s => [.v 1 s]) π2 Ir.b__law_right_1 m) := .un3 fun vlow vhigh vmany => .name rfl (.name rfl (.name rfl (.pat (π1 := fun s => [.v 1 s, .v 0 vhere, .v 0 vstand, .v 0 vkept, .v 0 vevery, .v 0 vlow, .v 0 vhigh, .v 0 vmany, .any, .any, .any, .any, .any]) (fun _ => rfl) (.for_ (πj := fun (r4 : Unit) => fun s => [.v 1 s, .v 0 vhere, .v 0 vstand, .v 0 vkept, .v 0 vevery, .v 0 vlow, .v 0 vhigh, .v 0 vmany, .any, .any, .any, .any, .any]) (.seq (.of (.n0 (.lst (.cons (.of (.tup (.cons (.of (.var0 fun _ => rfl)) (.cons (.of (.var0 fun _ => rfl)) .nil)))) (.cons (.of (.tup (.cons (.of (.var0 fun _ => rfl)) (.cons (.of (.var0 fun _ => rfl)) .nil)))) .nil))) rfl Nat.one_pos))) (fun _ => ⟨(.v (.v (.v (.v (.v (.v (.v (.v (.any (.any (.any (.any (.any .nil))))))))))))), Nat.le_refl _⟩) (hl__law_right_0 _ vhere vstand vkept vevery vlow vhigh vmany) fun r4 => .nil fun _ => ⟨(.v (.v (.v (.v (.v (.any (.any (.any (.any (.any (.any (.any (.any .nil))))))))))))), Nat.le_refl _⟩))))
def q__law_right : Mx D (Oc Unit Empty) := bd (callG F__law_drawn [(pv (.int 4)), (pv (.int 2))]) fun r1 => un2 r1 fun vhere vstand => bd (b1M 0 .repr (lstM [(pv vhere), (pv vstand)])) fun vkept => bd (callM F__law_all [(pv vhere), (pv vstand)]) fun vevery => sqO (forM (seqI (ixM (pv vhere) (pv (.int 1)))) (() : Unit) (l__law_right_1 vhere vstand vkept vevery)) fun r2 => rtM (cmpM .eq (b1M 0 .repr (lstM [(pv vhere), (pv vstand)])) (pv vkept))
theorem sh__law_right (k : Nat) (s : D) : ShG 0 (callK Ir.T (k + 10) "_law_right" (s :: [])) (runG (q__law_right ) s) :=
  shG_fn (k := k + 9) (π := fun s => [.v 1 s, .any, .any, .any, .any, .any, .any, .any, .any, .any, .any, .any, .any]) T__law_right rfl ⟨rfl, Nat.le_of_ble_eq_true rfl⟩ rfl (fun _ => rfl) (.unp (.of (.callG (md__law_drawn _) (shL__law_drawn (k + 5)) (fun _ => rfl) (fun _ _ => rfl) (.cons (.of .cst) (.cons (.of .cst) .nil)))) fun r1 => .un2 fun vhere vstand => .name rfl (.name rfl (.pat (π1 := fun s => [.v 1 s, .v 0 vhere, .v 0 vstand, .any, .any, .any, .any, .any, .any, .any, .any, .any, .any]) (fun _ => rfl) (.tas2 (.of (.b1 (.n0 (.lst (.cons (.of (.var0 fun _ => rfl)) (.cons (.of (.var0 fun _ => rfl)) .nil))) rfl Nat.one_pos))) (.of (.call (md__law_all _) (shL__law_all (k + 6)) (.cons (.of (.var0 fun _ => rfl)) (.cons (.of (.var0 fun _ => rfl)) .nil)))) rfl rfl zk zk fun vkept vevery => .pat (π1 := fun s => [.v 1 s, .v 0 vhere, .v 0 vstand, .v 0 vkept, .v 0 vevery, .any, .any, .any, .any, .any, .any, .any, .any]) (fun _ => rfl) (.for_ (πj := fun (r2 : Unit) => fun s => [.v 1 s, .v 0 vhere, .v 0 vstand, .v 0 vkept, .v 0 vevery, .any, .any, .any, .any, .any, .any, .any, .any]) (.seq (.of (.ix (.var0 fun _ => rfl) .cst))) (fun _ => ⟨(.v (.v (.v (.v (.v (.any (.any (.any (.any (.any (.any (.any (.any .nil))))))))))))), Nat.le_refl _⟩) (hl__law_right_1 _ vhere vstand vkept vevery) fun r2 => .ret (.of (.cmp (.b1 (.n0 (.lst (.cons (.of (.var0 fun _ => rfl)) (.cons (.of (.var0 fun _ => rfl)) .nil))) rfl Nat.one_pos)) (.var0 fun _ => rfl))) rfl fun _ => ⟨.v .nil, Nat.le_of_ble_eq_true rfl⟩)))))
def F__law_right : D → List D → Rs (D × D)
  | s, [] => runG (q__law_right ) s
  | _, _ => .st
theorem shL__law_right (k : Nat) : ∀ (s : D) (ds : List D), ShG 0 (callK Ir.T (k + 10) "_law_right" (s :: ds)) (F__law_right s ds)
  | s, [] => sh__law_right k s 
  | _, _ :: _ => trivial
theorem T_law : Ir.T "law" = some Ir.f_law := rfl
theorem md_law (k : Nat) : (orc Ir.T k).modes "law" = some [.sh] := orc_modes T_law k
def l_law_0 (vscript : D) (r2 : D) (r1 : Unit) : Mx Unit (Oc (Unit) (Unit)) := iteM (tsM (notM (callT F__law_right (callM F__law_generator [(pv vscript), (pv r2)]) []))) (rtM (pv (.bool false))) (nxM ())
theorem hl_law_0 (k : Nat) (vscript : D) (r2 : D) (r1 : Unit) : TB Ir.f_law.gam (.name 1) (fun s => [.v 0 vscript, .any, .any, .any, .any, .any, .any, .any, .any]) r2 (l_law_0 vscript r2 r1) (fun π2 m => XS (orc Ir.T (k + 10)) Ir.f_law.gam 0 (fun (r1 : Unit) => fun s => [.v 0 vscript, .any, .any, .any, .any, .any, .any, .any, .any]) (fun (r1 : Unit) => fun s => [.v 0 vscript, .any, .any, .any, .any, .any, .any, .any, .any]) (fun _ => []) π2 Ir.b_law_0 m) := .name rfl (.pat (π1 := fun s => [.v 0 vscript, .v 0 r2, .any, .any, .any, .any, .any, .any, .any]) (fun _ => rfl) (.ifs (.of (.not (.callT (md__law_right _) (shL__law_right (k + 0)) (.call (md__law_generator _) (shL__law_generator (k + 8)) (.cons (.of (.var0 fun _ => rfl)) (.cons (.of (.var0 fun _ => rfl)) .nil))) .nil))) (.ret (.of .cst) rfl fun _ => ⟨.nil, Nat.zero_le _⟩) (.nil fun _ => ⟨(.v (.any (.any (.any (.any (.any (.any (.any (.any .nil))))))))), Nat.le_refl _⟩)))
def q_law (vscript : D) : Mx Unit (Oc Unit Empty) := sqO (forM (rg1 (pv (.int 2))) (() : Unit) (l_law_0 vscript)) fun r1 => bd (tupM [(pv (.int 3)), (lstM [(tupM [(pv (.int 0)), (pv (.int 1)), (pv (.int 1))]), (tupM [(pv (.int 1)), (pv (.int 2)), (pv (.int 2))])])]) fun vpath => bd (tupM [(pv (.int 3)), (lstM [(tupM [(pv (.int 0)), (pv (.int 1)), (pv (.int 1))]), (tupM [(pv (.int 0)), (pv (.int 2)), (pv (.int 1))]), (tupM [(pv (.int 1)), (pv (.int 2)), (pv (.int 1))])])]) fun vring => bd (lstM [(callM F_fewest_keys [(pv vpath), (lstM [(pv (.int 1)), (pv (.int 0))]), (pv (.int 1)), (pv (.int 2))]), (callM F_most_keys [(pv vpath), (lstM [(pv (.int 1)), (pv (.int 0))]), (pv (.int 1)), (pv (.int 2))]), (callM F_most_keys [(pv vring), (lstM [(pv (.int 1)), (pv (.int 0)), (pv (.int 1))]), (pv (.int 0)), (pv (.int 1))]), (callM F_fewest_keys [(pv vring), (lstM [(pv (.int 1)), (pv (.int 1)), (pv (.int 1))]), (pv (.int 2)), (pv (.int 1))])]) fun vtold => bd (tupM [(pv (.int 6)), (lstM [(tupM [(pv (.int 0)), (pv (.int 1)), (pv (.int 1))]), (tupM [(pv (.int 0)), (pv (.int 2)), (pv (.int 1))]), (tupM [(pv (.int 1)), (pv (.int 2)), (pv (.int 1))]), (tupM [(pv (.int 2)), (pv (.int 3)), (pv (.int 2))]), (tupM [(pv (.int 3)), (pv (.int 4)), (pv (.int 1))]), (tupM [(pv (.int 3)), (pv (.int 5)), (pv (.int 1))]), (tupM [(pv (.int 4)), (pv (.int 5)), (pv (.int 1))])])]) fun vsix => iteM (tsM (cmpM .ne (lstM [(callM F_fewest_keys [(pv vsix), (lstM [(pv (.int 0)), (pv (.int 1)), (pv (.int 0)), (pv (.int 1)), (pv (.int 0)), (pv (.int 1)), (pv (.int 0))]), (pv (.int 2)), (pv (.int 3))]), (callM F_most_keys [(pv vsix), (lstM [(pv (.int 0)), (pv (.int 1)), (pv (.int 0)), (pv (.int 1)), (pv (.int 0)), (pv (.int 1)), (pv (.int 0))]), (pv (.int 3)), (pv (.int 2))])]) (lstM [(pv (.int 1)), (pv (.int 1))]))) (rtM (pv (.bool false))) (bd (tupM [(pv (.int 5)), (lstM [(tupM [(pv (.int 0)), (pv (.int 1)), (pv (.int 1))]), (tupM [(pv (.int 0)), (pv (.int 2)), (pv (.int 1))]), (tupM [(pv (.int 1)), (pv (.int 2)), (pv (.int 1))]), (tupM [(pv (.int 2)), (pv (.int 3)), (pv (.int 1))]), (tupM [(pv (.int 3)), (pv (.int 4)), (pv (.int 3))])])]) fun vfive => bd (lstM [(pv (.int 0)), (pv (.int 1)), (pv (.int 0)), (pv (.int 1)), (pv (.int 0))]) fun vheld => iteM (tsM (cmpM .ne (lstM [(callM F_fewest_keys [(pv vfive), (pv vheld), (pv (.int 3)), (pv (.int 4))]), (callM F_most_keys [(pv vfive), (pv vheld), (pv (.int 3)), (pv (.int 4))]), (callM F_fewest_keys [(pv vfive), (pv vheld), (pv (.int 4)), (pv (.int 3))]), (callM F_fewest_keys [(pv vfive), (pv vheld), (pv (.int 2)), (pv (.int 3))])]) (lstM [(pv (.int 0)), (pv (.int 1)), (pv (.int 2)), (pv (.int 0))]))) (rtM (pv (.bool false))) (bd (tupM [(pv (.int 3)), (lstM [(tupM [(pv (.int 0)), (pv (.int 1)), (pv (.int 9))]), (tupM [(pv (.int 0)), (pv (.int 2)), (pv (.int 1))]), (tupM [(pv (.int 1)), (pv (.int 2)), (pv (.int 1))])])]) fun vmany => rtM (andM (cmpM .eq (pv vtold) (lstM [(pv (.int 0)), (pv (.int 2)), (pv (.int 1)), (pv (.int 0))])) (cmpM .eq (lstM [(callM F_fewest_keys [(pv vmany), (lstM [(pv (.int 5)), (pv (.int 0)), (pv (.int 0))]), (pv (.int 0)), (pv (.int 1))]), (callM F_most_keys [(pv vmany), (lstM [(pv (.int 5)), (pv (.int 0)), (pv (.int 0))]), (pv (.int 0)), (pv (.int 1))])]) (lstM [(pv (.int 4)), (pv (.int 6))])))))
theorem sh_law (k : Nat) (vscript : D) : Sh 0 (callK Ir.T (k + 11) "law" [vscript]) (runM (q_law vscript)) :=
  sh_fn (k := k + 10) (π := fun s => [.v 0 vscript, .any, .any, .any, .any, .any, .any, .any, .any]) T_law ⟨rfl, Nat.le_of_ble_eq_true rfl⟩ rfl (fun _ => rfl) (.for_ (πj := fun (r1 : Unit) => fun s => [.v 0 vscript, .any, .any, .any, .any, .any, .any, .any, .any]) (.range1 .cst) (fun _ => ⟨(.v (.any (.any (.any (.any (.any (.any (.any (.any .nil))))))))), Nat.le_refl _⟩) (hl_law_0 _ vscript) fun r1 => .tas2 (.of (.tup (.cons (.of .cst) (.cons (.of (.n0 (.lst (.cons (.of (.tup (.cons (.of .cst) (.cons (.of .cst) (.cons (.of .cst) .nil))))) (.cons (.of (.tup (.cons (.of .cst) (.cons (.of .cst) (.cons (.of .cst) .nil))))) .nil))) rfl Nat.one_pos)) .nil)))) (.of (.tup (.cons (.of .cst) (.cons (.of (.n0 (.lst (.cons (.of (.tup (.cons (.of .cst) (.cons (.of .cst) (.cons (.of .cst) .nil))))) (.cons (.of (.tup (.cons (.of .cst) (.cons (.of .cst) (.cons (.of .cst) .nil))))) (.cons (.of (.tup (.cons (.of .cst) (.cons (.of .cst) (.cons (.of .cst) .nil))))) .nil)))) rfl Nat.one_pos)) .nil)))) rfl rfl zk zk fun vpath vring => .pat (π1 := fun s => [.v 0 vscript, .any, .v 0 vpath, .v 0 vring, .any, .any, .any, .any, .any]) (fun _ => rfl) (.asg (.of (.n0 (.lst (.cons (.of (.call (md_fewest_keys _) (shL_fewest_keys (k + 1)) (.cons (.of (.var0 fun _ => rfl)) (.cons (.of (.n0 (.lst (.cons (.of .cst) (.cons (.of .cst) .nil))) rfl Nat.one_pos)) (.cons (.of .cst) (.cons (.of .cst) .nil)))))) (.cons (.of (.call (md_most_keys _) (shL_most_keys (k + 1)) (.cons (.of (.var0 fun _ => rfl)) (.cons (.of (.n0 (.lst (.cons (.of .cst) (.cons (.of .cst) .nil))) rfl Nat.one_pos)) (.cons (.of .cst) (.cons (.of .cst) .nil)))))) (.cons (.of (.call (md_most_keys _) (shL_most_keys (k + 1)) (.cons (.of (.var0 fun _ => rfl)) (.cons (.of (.n0 (.lst (.cons (.of .cst) (.cons (.of .cst) (.cons (.of .cst) .nil)))) rfl Nat.one_pos)) (.cons (.of .cst) (.cons (.of .cst) .nil)))))) (.cons (.of (.call (md_fewest_keys _) (shL_fewest_keys (k + 1)) (.cons (.of (.var0 fun _ => rfl)) (.cons (.of (.n0 (.lst (.cons (.of .cst) (.cons (.of .cst) (.cons (.of .cst) .nil)))) rfl Nat.one_pos)) (.cons (.of .cst) (.cons (.of .cst) .nil)))))) .nil))))) rfl Nat.one_pos)) rfl zk fun vtold => .pat (π1 := fun s => [.v 0 vscript, .any, .v 0 vpath, .v 0 vring, .v 0 vtold, .any, .any, .any, .any]) (fun _ => rfl) (.asg (.of (.tup (.cons (.of .cst) (.cons (.of (.n0 (.lst (.cons (.of (.tup (.cons (.of .cst) (.cons (.of .cst) (.cons (.of .cst) .nil))))) (.cons (.of (.tup (.cons (.of .cst) (.cons (.of .cst) (.cons (.of .cst) .nil))))) (.cons (.of (.tup (.cons (.of .cst) (.cons (.of .cst) (.cons (.of .cst) .nil))))) (.cons (.of (.tup (.cons (.of .cst) (.cons (.of .cst) (.cons (.of .cst) .nil))))) (.cons (.of (.tup (.cons (.of .cst) (.cons (.of .cst) (.cons (.of .cst) .nil))))) (.cons (.of (.tup (.cons (.of .cst) (.cons (.of .cst) (.cons (.of .cst) .nil))))) (.cons (.of (.tup (.cons (.of .cst) (.cons (.of .cst) (.cons (.of .cst) .nil))))) .nil)))))))) rfl Nat.one_pos)) .nil)))) rfl zk fun vsix => .pat (π1 := fun s => [.v 0 vscript, .any, .v 0 vpath, .v 0 vring, .v 0 vtold, .v 0 vsix, .any, .any, .any]) (fun _ => rfl) (.ifs (.of (.cmp (.n0 (.lst (.cons (.of (.call (md_fewest_keys _) (shL_fewest_keys (k + 1)) (.cons (.of (.var0 fun _ => rfl)) (.cons (.of (.n0 (.lst (.cons (.of .cst) (.cons (.of .cst) (.cons (.of .cst) (.cons (.of .cst) (.cons (.of .cst) (.cons (.of .cst) (.cons (.of .cst) .nil)))))))) rfl Nat.one_pos)) (.cons (.of .cst) (.cons (.of .cst) .nil)))))) (.cons (.of (.call (md_most_keys _) (shL_most_keys (k + 1)) (.cons (.of (.var0 fun _ => rfl)) (.cons (.of (.n0 (.lst (.cons (.of .cst) (.cons (.of .cst) (.cons (.of .cst) (.cons (.of .cst) (.cons (.of .cst) (.cons (.of .cst) (.cons (.of .cst) .nil)))))))) rfl Nat.one_pos)) (.cons (.of .cst) (.cons (.of .cst) .nil)))))) .nil))) rfl Nat.one_pos) (.n0 (.lst (.cons (.of .cst) (.cons (.of .cst) .nil))) rfl Nat.one_pos))) (.ret (.of .cst) rfl fun _ => ⟨.nil, Nat.zero_le _⟩) (.tas2 (.of (.tup (.cons (.of .cst) (.cons (.of (.n0 (.lst (.cons (.of (.tup (.cons (.of .cst) (.cons (.of .cst) (.cons (.of .cst) .nil))))) (.cons (.of (.tup (.cons (.of .cst) (.cons (.of .cst) (.cons (.of .cst) .nil))))) (.cons (.of (.tup (.cons (.of .cst) (.cons (.of .cst) (.cons (.of .cst) .nil))))) (.cons (.of (.tup (.cons (.of .cst) (.cons (.of .cst) (.cons (.of .cst) .nil))))) (.cons (.of (.tup (.cons (.of .cst) (.cons (.of .cst) (.cons (.of .cst) .nil))))) .nil)))))) rfl Nat.one_pos)) .nil)))) (.of (.n0 (.lst (.cons (.of .cst) (.cons (.of .cst) (.cons (.of .cst) (.cons (.of .cst) (.cons (.of .cst) .nil)))))) rfl Nat.one_pos)) rfl rfl zk zk fun vfive vheld => .pat (π1 := fun s => [.v 0 vscript, .any, .v 0 vpath, .v 0 vring, .v 0 vtold, .v 0 vsix, .v 0 vfive, .v 0 vheld, .any]) (fun _ => rfl) (.ifs (.of (.cmp (.n0 (.lst (.cons (.of (.call (md_fewest_keys _) (shL_fewest_keys (k + 1)) (.cons (.of (.var0 fun _ => rfl)) (.cons (.of (.var0 fun _ => rfl)) (.cons (.of .cst) (.cons (.of .cst) .nil)))))) (.cons (.of (.call (md_most_keys _) (shL_most_keys (k + 1)) (.cons (.of (.var0 fun _ => rfl)) (.cons (.of (.var0 fun _ => rfl)) (.cons (.of .cst) (.cons (.of .cst) .nil)))))) (.cons (.of (.call (md_fewest_keys _) (shL_fewest_keys (k + 1)) (.cons (.of (.var0 fun _ => rfl)) (.cons (.of (.var0 fun _ => rfl)) (.cons (.of .cst) (.cons (.of .cst) .nil)))))) (.cons (.of (.call (md_fewest_keys _) (shL_fewest_keys (k + 1)) (.cons (.of (.var0 fun _ => rfl)) (.cons (.of (.var0 fun _ => rfl)) (.cons (.of .cst) (.cons (.of .cst) .nil)))))) .nil))))) rfl Nat.one_pos) (.n0 (.lst (.cons (.of .cst) (.cons (.of .cst) (.cons (.of .cst) (.cons (.of .cst) .nil))))) rfl Nat.one_pos))) (.ret (.of .cst) rfl fun _ => ⟨.nil, Nat.zero_le _⟩) (.asg (.of (.tup (.cons (.of .cst) (.cons (.of (.n0 (.lst (.cons (.of (.tup (.cons (.of .cst) (.cons (.of .cst) (.cons (.of .cst) .nil))))) (.cons (.of (.tup (.cons (.of .cst) (.cons (.of .cst) (.cons (.of .cst) .nil))))) (.cons (.of (.tup (.cons (.of .cst) (.cons (.of .cst) (.cons (.of .cst) .nil))))) .nil)))) rfl Nat.one_pos)) .nil)))) rfl zk fun vmany => .pat (π1 := fun s => [.v 0 vscript, .any, .v 0 vpath, .v 0 vring, .v 0 vtold, .v 0 vsix, .v 0 vfive, .v 0 vheld, .v 0 vmany]) (fun _ => rfl) (.ret (.of (.and (.cmp (.var0 fun _ => rfl) (.n0 (.lst (.cons (.of .cst) (.cons (.of .cst) (.cons (.of .cst) (.cons (.of .cst) .nil))))) rfl Nat.one_pos)) (.cmp (.n0 (.lst (.cons (.of (.call (md_fewest_keys _) (shL_fewest_keys (k + 1)) (.cons (.of (.var0 fun _ => rfl)) (.cons (.of (.n0 (.lst (.cons (.of .cst) (.cons (.of .cst) (.cons (.of .cst) .nil)))) rfl Nat.one_pos)) (.cons (.of .cst) (.cons (.of .cst) .nil)))))) (.cons (.of (.call (md_most_keys _) (shL_most_keys (k + 1)) (.cons (.of (.var0 fun _ => rfl)) (.cons (.of (.n0 (.lst (.cons (.of .cst) (.cons (.of .cst) (.cons (.of .cst) .nil)))) rfl Nat.one_pos)) (.cons (.of .cst) (.cons (.of .cst) .nil)))))) .nil))) rfl Nat.one_pos) (.n0 (.lst (.cons (.of .cst) (.cons (.of .cst) .nil))) rfl Nat.one_pos)))) rfl fun _ => ⟨.nil, Nat.zero_le _⟩))))))))
def F_law : List D → Rs D
  | [vscript] => runM (q_law vscript)
  | _ => .st
theorem shL_law (k : Nat) : ∀ ds : List D, Sh 0 (callK Ir.T (k + 11) "law" ds) (F_law ds)
  | [vscript] => sh_law k vscript
  | [] => trivial
  | _ :: _ :: _ => trivial
end Kr

set_option Elab.async false
set_option linter.all false
set_option maxRecDepth 100000
set_option maxHeartbeats 1000000
namespace Kz
open PySem PySem.Spec PyProof.Rows L2 Kr
theorem f_hash (s i : Int) (hi : 0 ≤ i ∧ i < 2 ^ 60) : F__law_hash [.int s, .int i] = .ok (.int (hashV s i)) := by
  have e1 : iop .mul s 1140671 = some (s * 1140671) := iop_mul (mulR (by omega))
  have e2 : iop .mul 27644437 i = some (27644437 * i) := iop_mul (mulR (by omega))
  have e3 : iop .mul (27644437 * i) i = some (27644437 * i * i) := iop_mul (mulR (by omega))
  have e4 : iop .mul 131 i = some (131 * i) := iop_mul (mulR (by omega))
  have e5 : iop .mul 62089 i = some (62089 * i) := iop_mul (mulR (by omega))
  have e6 : iop .mul ((s * 1140671 + 27644437 * i * i + 131 * i + 19) % 2147483629) ((s * 1140671 + 27644437 * i * i + 131 * i + 19) % 2147483629) = some (((s * 1140671 + 27644437 * i * i + 131 * i + 19) % 2147483629) * ((s * 1140671 + 27644437 * i * i + 131 * i + 19) % 2147483629)) := iop_mul (mulR (by omega))
  show runM (q__law_hash (.int s) (.int i)) = _
  unfold q__law_hash
  simp [e1, e2, e3, e4, e5, e6, iop_mod, iop_mul, mulR, hashV]
theorem rndStep (b : Int) (d : D) (dr s c : Int) (hc : 0 ≤ c ∧ c + 1 < 2 ^ 60) : Tp (fun o g' => ∃ dr' : Int, o = .nx (.int dr') ∧ g' = gen 0 s (c + 1)) (l__law_random_0 (.int b) d (.int dr)) (gen 0 s c) := by
  unfold l__law_random_0
  have hh := f_hash s (c + 1) (by omega)
  have em : iop .mul dr 2147483587 = some (dr * 2147483587) := iop_mul (mulR (by omega))
  have e : l__law_random_0 (.int b) d (.int dr) (gen 0 s c) = .ok (.nx (.int (dr * 2147483587 + hashV s (c + 1))), gen 0 s (c + 1)) := by
    have g1 : getI (gen 0 s c) 2 = some (.int c) := rfl
    have g2 : getI (gen 0 s (c + 1)) 1 = some (.int s) := rfl
    have g3 : getI (gen 0 s (c + 1)) 2 = some (.int (c + 1)) := rfl
    unfold l__law_random_0
    simp -implicitDefEqProofs only [opM_pv, bin_ii, em, Option.map_some, dep_00, oM_sm]
    simp [setS, ixS, Kr.bd, Kr.pv, opM, oM, dep, iop, g1, g2, g3, ixN, callM, sqM, hh, lf, nxM]
  exact ⟨_, _, e, _, rfl, rfl⟩
theorem rnd_F (g b : D) : F__law_random g [b] = runG (q__law_random b) g := rfl
theorem rnd_pos (a s c b : Int) (hb : 0 < b ∧ b < 2 ^ 60) (ha : 0 < a) : q__law_random (.int b) (gen a s c) = .ok (.rt (.int (a % b)), gen (a / b) s c) := by
  have g0 : getI (gen a s c) 0 = some (.int a) := rfl
  unfold q__law_random
  simp -implicitDefEqProofs [iteM, tsM, truM, cmpM, truOk, truD, setS, ixS, Kr.bd, Kr.pv, opM, oM, b1M, g0, dep, iop_mod hb.1, iop_fdiv hb, ixN, rtM, ha]
theorem rnd_tst (s c : Int) : (tsM (cmpM .gt (ixS (Kr.pv (.int 0))) (Kr.pv (.int 0)))) (gen 0 s c) = .ok (false, gen 0 s c) := by
  have g0 : getI (gen 0 s c) 0 = some (.int 0) := rfl
  simp -implicitDefEqProofs [tsM, truM, cmpM, truOk, truD, ixS, Kr.bd, Kr.pv, oM, g0]
theorem rnd_zero (s c b : Int) (hb : 0 < b ∧ b < 2 ^ 60) (hc : 0 ≤ c ∧ c + 10 ≤ 2 ^ 59) : ∃ dr c' : Int, c ≤ c' ∧ c' ≤ c + 10 ∧ q__law_random (.int b) (gen 0 s c) = .ok (.rt (.int (dr % b)), gen 0 s c') := by
  have hbt := bits_small hb
  obtain ⟨B, hB⟩ : ∃ B : Nat, B = Builtin.Int.intBits b := ⟨_, rfl⟩
  rw [← hB] at hbt
  have ef : iop .fdiv (B : Int) 30 = some ((B : Int) / 30) := iop_fdiv (by omega)
  have eb : b1v .bitlen (.int b) = some (0, .int (B : Int)) := by rw [hB]; rfl
  obtain ⟨q, hq⟩ : ∃ q : Int, q = 1 + (B : Int) / 30 := ⟨_, rfl⟩
  have hq2 : 0 ≤ q ∧ q ≤ 3 := by omega
  obtain ⟨L, hl⟩ : ∃ L, L = rangeD 0 q.toNat := ⟨_, rfl⟩
  have lL : (L.length : Int) ≤ 3 := by rw [hl, rangeD_len]; omega
  have lp := Tp.for_ (γ := Empty) (f := l__law_random_0 (.int b)) (I := fun j r g => ∃ dr : Int, r = .int dr ∧ g = gen 0 s (c + (j : Int))) L 0 (.int 0) (gen 0 s c) ⟨0, rfl, by simp⟩ fun j d r g q hj => by
    obtain ⟨dr, rfl, rfl⟩ := hj
    have hjl : j < L.length := by
      rcases Nat.lt_or_ge j L.length with z | z
      · exact z
      · rw [List.getElem?_eq_none z] at q; cases q
    have := rndStep b d dr s (c + ((0 + j : Nat) : Int)) (by omega)
    refine this.imp fun o g' z => ?_
    obtain ⟨dr', rfl, rfl⟩ := z
    exact ⟨_, rfl, dr', rfl, by simp; omega⟩
  obtain ⟨o, g', e, r', rfl, dr, rfl, rfl⟩ := lp
  refine ⟨dr, c + ((0 + L.length : Nat) : Int), by omega, by omega, ?_⟩
  have hr : (rg1 (Kr.pv (.int q)) : Mx D (List D)) = Kr.pv L := by rw [rg1_pv (by omega), hl]
  have hr2 : (rg1 (opM 0 .add (Kr.pv (.int 1)) (opM 0 .fdiv (b1M 0 .bitlen (Kr.pv (.int b))) (Kr.pv (.int 30)))) : Mx D (List D)) = Kr.pv L := by
    rw [b1M_pv, eb, dep_00, oM_sm, opM_pv, bin_ii, ef, Option.map_some, dep_00, oM_sm, opM_pv, bin_ii, iop_add, Option.map_some, dep_00, oM_sm, ← hq, hr]
  unfold q__law_random
  rw [iteM_at (rnd_tst s c), if_neg Bool.false_ne_true, bd_pv_, hr2, forM_, sqO_at e, b1M_pv, b1_int, dep_00, oM_sm, opM_pv, bin_ii, iop_mod hb.1, Option.map_some, dep_00, oM_sm, rtM_]
  rfl
theorem runG_at {m : Mx D (Oc Unit Empty)} {s s' d : D} (h : m s = .ok (.rt d, s')) : runG m s = .ok (d, s') := by
  unfold runG
  rw [h]
theorem rndOk : RndOk F__law_random := fun m g b hg hb => by
  obtain ⟨a, s, c, rfl, h1, h2, h3⟩ := hg
  by_cases ha : 0 < a
  · exact ⟨a % b, gen (a / b) s c, (rnd_F _ _).trans (runG_at (rnd_pos a s c b hb ha)), Int.emod_nonneg _ (by omega), Int.emod_lt_of_pos _ hb.1, a / b, s, c, rfl, Int.ediv_nonneg h1 (by omega), h2, by omega⟩
  · obtain rfl : a = 0 := by omega
    obtain ⟨dr, c', q1, q2, e⟩ := rnd_zero s c b hb ⟨h2, by omega⟩
    exact ⟨dr % b, gen 0 s c', (rnd_F _ _).trans (runG_at e), Int.emod_nonneg _ (by omega), Int.emod_lt_of_pos _ hb.1, 0, s, c', rfl, by omega, by omega, by omega⟩
theorem f_cell (ns : List Int) (i : Nat) : ∃ r : Int, F__law_cell [iL ns, .int (i : Nat)] = .ok (.int r) := by
  show ∃ r : Int, runM (q__law_cell (iL ns) (.int (i : Nat))) = _
  unfold q__law_cell
  by_cases h : i < ns.length
  · refine ⟨ns[i], ?_⟩
    have hg : getI (iL ns) (i : Int) = some (.int ns[i]) := get_nat? (by rw [List.getElem?_map, List.getElem?_eq_getElem h]; rfl)
    simp [h, hg]
  · refine ⟨(ns.take 1).sum % 1000003, ?_⟩
    have hs : slD (iL ns) none (some 1) = some (1, iL (ns.take 1)) := by rw [sl_take (by omega), ← List.map_take]; rfl
    simp -implicitDefEqProofs only [iL, List.map_take] at hs
    have hb := b1_sum (ns.take 1)
    simp -implicitDefEqProofs only [iL, List.map_take] at hb
    simp [h, hs, hb, iop_mod, dep]
theorem f_generator (ns : List Int) (i m : Nat) (hi : 1000 * i + 10 * m ≤ 2 ^ 59) : ∃ g : D, F__law_generator [iL ns, .int (i : Nat)] = .ok g ∧ G m g := by
  obtain ⟨s, hs⟩ := f_cell ns i
  have p1 : iop .pow 10 18 = some 1000000000000000000 := by decide +kernel
  obtain ⟨P0, hP0⟩ : ∃ P0 : Int, P0 = 10 ^ 60 := ⟨_, rfl⟩
  obtain ⟨P, hP⟩ : ∃ P : Int, P = P0 ^ 10 := ⟨_, rfl⟩
  have p2 : iop .pow 10 60 = some P0 := by rw [hP0]; decide +kernel
  have p3 : iop .pow P0 10 = some P := by rw [hP, hP0]; decide +kernel
  have hp : 0 < P := by rw [hP, hP0]; decide +kernel
  clear hP hP0
  have e1 : iop .mul 1000 (i : Int) = some (1000 * (i : Int)) := iop_mul (mulL (by omega))
  obtain ⟨z, hz⟩ : ∃ z : Int, (if 0 > s - 1000000000000000000 then 0 else s - 1000000000000000000) = z := ⟨_, rfl⟩
  refine ⟨gen (z % P) (s % 2147483647) (1000 * (i : Int)), ?_, _, _, _, rfl, Int.emod_nonneg _ (by omega), by omega, by omega⟩
  show runM (q__law_generator (iL ns) (.int (i : Nat))) = _
  unfold q__law_generator
  rw [call2, hs]
  simp -implicitDefEqProofs only [lf_ok, bd_pv_, opM_pv, bin_ii, p1, p2, p3, Option.map_some, dep_00, oM_sm, iop_sub, b2M_pv, b2_max, hz, b1M_pv, b1_int, iop_mod hp, iop_mod (show (0 : Int) < 2147483647 by omega), e1, lst3, rtM_, runM_r]
end Kz

set_option Elab.async false
set_option linter.all false
set_option maxRecDepth 100000
set_option maxHeartbeats 1000000
namespace Kz
open PySem PySem.Spec PyProof.Rows L2 Kr
/-! ### nets and standings, typed -/
structure Road where
  lo : Nat
  hi : Nat
  many : Nat
def encR (r : Road) : D := .tuple [.int (r.lo : Nat), .int (r.hi : Nat), .int (r.many : Nat)]
abbrev netD (n : Nat) (rs : List Road) : D := .tuple [.int (n : Nat), .list (rs.map encR)]
def encN (x : Nat) : D := .int (x : Nat)
abbrev nL (s : List Nat) : D := .list (s.map encN)
def Road.lt (a b : Road) : Prop := a.lo < b.lo ∨ a.lo = b.lo ∧ a.hi < b.hi
structure GN (n : Nat) (rs : List Road) : Prop where
  pos : 0 < n
  top : n ≤ 12
  ok : ∀ r ∈ rs, r.lo < r.hi ∧ r.hi < n ∧ 1 ≤ r.many ∧ r.many ≤ 10
  srt : rs.Pairwise Road.lt
  len : rs.length ≤ 66
structure GS (rs : List Road) (s : List Nat) : Prop where
  len : s.length = rs.length
  ok : ∀ p ∈ s.zip rs, p.1 ≤ p.2.many
theorem compM_none {σ T : Type} {f : D → Mx σ (Option D)} {enc : T → D} {ts : List T} (h : ∀ t ∈ ts, f (enc t) = Kr.pv none) (hl : ts.length ≤ sizeLine) : compM (Kr.pv (ts.map enc)) f = Kr.pv (.list []) := by
  rw [compM_fm (fun _ => (none : Option D)) h hl]
  have : ts.filterMap (fun _ => (none : Option D)) = [] := by
    clear h hl
    induction ts with
    | nil => rfl
    | cons t ts ih => rw [List.filterMap_cons]; exact ih
  rw [this]
theorem c_nn : cmpop .ne (.list []) (.list []) = some false := by decide +kernel
theorem c_ee : cmpop .eq (.list []) (.list []) = some true := by decide +kernel
theorem sz {n : Nat} (h : n ≤ 100000) : n ≤ sizeLine := by rw [sizeLine_eq]; omega
theorem f_whole (i : Int) : F_is_whole [.int i] = .ok (.bool true) := by
  show runM (q_is_whole (.int i)) = _
  unfold q_is_whole
  have e1 : b1v .isInt (.int i) = some (0, .bool true) := rfl
  have e2 : b1v .isBool (.int i) = some (0, .bool false) := rfl
  simp -implicitDefEqProofs [e1, e2]
theorem f_btw (i a b : Int) : F_is_between [.int i, .int a, .int b] = .ok (.bool (decide (a ≤ i) && decide (i ≤ b))) := by
  show runM (q_is_between (.int i) (.int a) (.int b)) = _
  unfold q_is_between
  simp -implicitDefEqProofs [f_whole]
theorem f_btwN (i a : Int) : F_is_between [.int i, .int a, .none] = .ok (.bool (decide (a ≤ i))) := by
  show runM (q_is_between (.int i) (.int a) .none) = _
  unfold q_is_between
  simp -implicitDefEqProofs [f_whole]
@[simp] theorem b1_tup {xs : List D} : b1v .isTuple (.tuple xs) = some (0, .bool true) := rfl
@[simp] theorem b1_lst {xs : List D} : b1v .isList (.list xs) = some (0, .bool true) := rfl
theorem f_isroad {n : Nat} {r : Road} (h : r.lo < r.hi ∧ r.hi < n ∧ 1 ≤ r.many) : F_is_road [.int (n : Nat), encR r] = .ok (.bool true) := by
  show runM (q_is_road (.int (n : Nat)) (.tuple [.int (r.lo : Nat), .int (r.hi : Nat), .int (r.many : Nat)])) = _
  unfold q_is_road
  have h1 : (0 : Int) ≤ (r.lo : Nat) := by omega
  have h2 : ((r.lo : Nat) : Int) ≤ (n : Int) - 1 := by omega
  have h3 : ((r.lo : Nat) : Int) + 1 ≤ (r.hi : Nat) := by omega
  have h4 : ((r.hi : Nat) : Int) ≤ (n : Int) - 1 := by omega
  have h5 : (1 : Int) ≤ (r.many : Nat) := by omega
  simp -implicitDefEqProofs [f_btw, f_btwN, h1, h2, h3, h4, h5]
theorem range2_map (n : Nat) : rangeD 1 ((n : Int) - 1).toNat = (List.range (n - 1)).map fun k => PyData.int (1 + (k : Nat)) := by
  unfold rangeD
  rw [show ((n : Int) - 1).toNat = n - 1 by omega]
theorem pw_get {α : Type} {R : α → α → Prop} : ∀ {l : List α}, l.Pairwise R → ∀ {i : Nat} {a b : α}, l[i]? = some a → l[i + 1]? = some b → R a b
  | [], _, i, a, b, h, _ => by simp at h
  | x :: l, h, 0, a, b, ha, hb => by
    cases ha
    exact (List.pairwise_cons.mp h).1 b (List.mem_of_getElem? (by simpa using hb))
  | x :: l, h, i + 1, a, b, ha, hb => pw_get (List.pairwise_cons.mp h).2 (by simpa using ha) (by simpa using hb)
theorem sl2 {a b c : D} : slD (.tuple [a, b, c]) none (some 2) = some (0, .tuple [a, b]) := rfl
theorem ge_false {a b : Road} (h : Road.lt a b) : cmpop .ge (.tuple [.int (a.lo : Nat), .int (a.hi : Nat)]) (.tuple [.int (b.lo : Nat), .int (b.hi : Nat)]) = some false := by
  show some (lexI [(a.lo : Int), (a.hi : Int)] [(b.lo : Int), (b.hi : Int)] != .lt) = _
  rcases h with h | ⟨h1, h2⟩
  · simp [lexI, show ((a.lo : Nat) : Int) ≠ (b.lo : Nat) by omega, show ((a.lo : Nat) : Int) < (b.lo : Nat) by omega]
  · simp [lexI, h1, show ((a.hi : Nat) : Int) ≠ (b.hi : Nat) by omega, show ((a.hi : Nat) : Int) < (b.hi : Nat) by omega]
theorem f_isnet {n : Nat} {rs : List Road} (g : GN n rs) : F_is_net [netD n rs] = .ok (.bool true) := by
  show runM (q_is_net (netD n rs)) = _
  unfold q_is_net
  have hp := g.pos
  have hl := g.len
  have h1 : (1 : Int) ≤ (n : Nat) := by omega
  have c1 : (compM (Kr.pv (rs.map encR)) (fun r2 => keepM (notM (callM F_is_road [Kr.pv (.int (n : Nat)), Kr.pv r2])) (Kr.pv r2)) : Mx Unit D) = Kr.pv (.list []) := compM_none (fun r hr => by
    have := g.ok r hr
    simp -implicitDefEqProofs [f_isroad (n := n) (r := r) ⟨this.1, this.2.1, this.2.2.1⟩]) (sz (by omega))
  have c2 : (compM (Kr.pv (rangeD 1 ((rs.length : Int) - 1).toNat)) (fun r3 => keepM (cmpM .ge (slM 0 (ixM (Kr.pv (.list (rs.map encR))) (opM 0 .sub (Kr.pv r3) (Kr.pv (.int 1)))) noP (exP (Kr.pv (.int 2)))) (slM 0 (ixM (Kr.pv (.list (rs.map encR))) (Kr.pv r3)) noP (exP (Kr.pv (.int 2))))) (Kr.pv r3)) : Mx Unit D) = Kr.pv (.list []) := by
    rw [range2_map]
    refine compM_none (fun k hk => ?_) (sz (by rw [List.length_range]; omega))
    rw [List.mem_range] at hk
    have e1 : (rs.map encR)[k]? = some (encR rs[k]) := by rw [List.getElem?_map, List.getElem?_eq_getElem (by omega)]; rfl
    have e2 : (rs.map encR)[k + 1]? = some (encR rs[k + 1]) := by rw [List.getElem?_map, List.getElem?_eq_getElem (by omega)]; rfl
    have g1 : getI (.list (rs.map encR)) (1 + (k : Int) - 1) = some (encR rs[k]) := by
      have := get_nat? e1
      rwa [show 1 + (k : Int) - 1 = ((k : Nat) : Int) by omega]
    have g2 : getI (.list (rs.map encR)) (1 + (k : Int)) = some (encR rs[k + 1]) := by
      have := get_nat? e2
      rwa [show ((k + 1 : Nat) : Int) = 1 + (k : Int) by omega] at this
    have hlt := pw_get g.srt (i := k) (List.getElem?_eq_getElem (by omega)) (List.getElem?_eq_getElem (by omega))
    simp -implicitDefEqProofs only [opM_pv, bin_ii, iop_sub, Option.map_some, dep_00, oM_sm, ixM_pv, g1, g2, noP_, exP_, slM_pv, encR, sl2, cmpM_pv, ge_false hlt, bd_pv_, keepM_b]
    rfl
  have r2 : (rg2 (Kr.pv (.int 1)) (Kr.pv (.int (rs.length : Nat))) : Mx Unit (List D)) = Kr.pv (rangeD 1 ((rs.length : Int) - 1).toNat) := rg2_pv (by omega) (by omega)
  have bl : b1v .len (.list (rs.map encR)) = some (0, .int (rs.length : Nat)) := by rw [b1_lenl, List.length_map]
  simp -implicitDefEqProofs only [b1M_pv, b1_tup, dep_00, oM_sm, notM_b, b1_lent, cmpM_pv, ixM_pv, gt2_0, call3, f_btwN, lf_ok, bd_pv_, un2_, b1_lst, seqI_l, c1, lst0, c_nn, bl, r2, c2, c_ee, decide_eq_true h1, Bool.not_true, orM_f, List.length_cons, List.length_nil]
  simp -implicitDefEqProofs
theorem f_chk {n : Nat} {rs : List Road} (g : GN n rs) : F_check_net [netD n rs] = .ok .none := by
  show runM (q_check_net (netD n rs)) = _
  unfold q_check_net
  simp -implicitDefEqProofs [f_isnet g]
end Kz

set_option Elab.async false
set_option linter.all false
set_option maxRecDepth 100000
set_option maxHeartbeats 1000000
namespace Kz
open PySem PySem.Spec PyProof.Rows L2 Kr
/-! ### standings, houses, neighbours -/
theorem zip_map : ∀ (s : List Nat) (rs : List Road), zipD (s.map encN) (rs.map encR) = (s.zip rs).map fun p => .tuple [encN p.1, encR p.2]
  | [], _ => by simp [zipD]
  | _ :: _, [] => by simp [zipD]
  | x :: s, r :: rs => by
    rw [List.map_cons, List.map_cons, zipD, zip_map s rs]; rfl
theorem f_isstanding {n : Nat} {rs : List Road} {s : List Nat} (g : GN n rs) (h : GS rs s) : F_is_standing [netD n rs, nL s] = .ok (.bool true) := by
  show runM (q_is_standing (netD n rs) (nL s)) = _
  unfold q_is_standing
  have hl := g.len
  have hs := h.len
  have c1 : (compM (Kr.pv ((s.zip rs).map fun p => .tuple [encN p.1, encR p.2])) (fun r1 => un2 r1 fun vitem vroad => keepM (notM (callM F_is_between [Kr.pv vitem, Kr.pv (.int 0), oM (getI vroad 2)])) (Kr.pv vitem)) : Mx Unit D) = Kr.pv (.list []) := compM_none (fun p hp => by
    have := h.ok p hp
    have e : getI (encR p.2) 2 = some (.int (p.2.many : Nat)) := rfl
    have h1 : (0 : Int) ≤ (p.1 : Nat) := by omega
    have h2 : ((p.1 : Nat) : Int) ≤ (p.2.many : Nat) := by omega
    simp -implicitDefEqProofs only [un2_, encN, ixM_pv, e, oM_sm, call3, f_btw, lf_ok, notM_b, keepM_b, decide_eq_true h1, decide_eq_true h2]
    rfl) (sz (by rw [List.length_zip]; omega))
  have bl : b1v .len (.list (rs.map encR)) = some (0, .int (rs.length : Nat)) := by rw [b1_lenl, List.length_map]
  have bs : b1v .len (nL s) = some (0, .int (rs.length : Nat)) := by rw [b1_lenl, List.length_map, hs]
  have bi : b1v .isList (nL s) = some (0, .bool true) := rfl
  simp -implicitDefEqProofs only [b1M_pv, bi, dep_00, oM_sm, notM_b, bs, ixM_pv, gt2_1, bl, zpI_l, zip_map, c1, lst0]
  simp -implicitDefEqProofs [c_ee]
theorem f_chks {n : Nat} {rs : List Road} {s : List Nat} (g : GN n rs) (h : GS rs s) : F_check_standing [netD n rs, nL s] = .ok .none := by
  show runM (q_check_standing (netD n rs) (nL s)) = _
  unfold q_check_standing
  simp -implicitDefEqProofs only [call1, call2, f_chk g, lf_ok, bd_pv_, f_isstanding g h]
  simp -implicitDefEqProofs
theorem f_ishouse {n : Nat} {rs : List Road} (i : Int) : F_is_house [netD n rs, .int i] = .ok (.bool (decide (0 ≤ i) && decide (i ≤ (n : Int) - 1))) := by
  show runM (q_is_house (netD n rs) (.int i)) = _
  unfold q_is_house
  simp -implicitDefEqProofs [f_btw]
/-- houses, ascending -/
structure GH (n : Nat) (hs : List Nat) : Prop where
  lt : ∀ h ∈ hs, h < n
  srt : hs.Pairwise (· < ·)
  len : hs.length ≤ 12
/-! neighbours -/
def nbs (rs : List Road) (u : Nat) : List Nat := (rs.filter fun r => decide (r.hi = u)).map (·.lo) ++ (rs.filter fun r => decide (r.lo = u)).map (·.hi)
theorem insI_le {x : Int} : ∀ {l : List Int}, (∀ y ∈ l, x ≤ y) → insI x l = x :: l
  | [], _ => rfl
  | y :: l, h => by
    rw [insI, if_pos (h y List.mem_cons_self)]
theorem isortI_sorted : ∀ {l : List Int}, l.Pairwise (· ≤ ·) → isortI l = l
  | [], _ => rfl
  | x :: l, h => by
    rw [List.pairwise_cons] at h
    show insI x (isortI l) = _
    rw [isortI_sorted h.2, insI_le h.1]
theorem nbs_srt {n : Nat} {rs : List Road} (g : GN n rs) (u : Nat) : (nbs rs u).Pairwise (· < ·) := by
  unfold nbs
  rw [List.pairwise_append]
  refine ⟨?_, ?_, fun a ha b hb => ?_⟩
  · rw [List.pairwise_map]
    refine (g.srt.filter _).imp_of_mem fun {a b} ha hb h => ?_
    have h1 := of_decide_eq_true (List.mem_filter.mp ha).2
    have h2 := of_decide_eq_true (List.mem_filter.mp hb).2
    rcases h with h | ⟨h3, h4⟩
    · exact h
    · omega
  · rw [List.pairwise_map]
    refine (g.srt.filter _).imp_of_mem fun {a b} ha hb h => ?_
    have h1 := of_decide_eq_true (List.mem_filter.mp ha).2
    have h2 := of_decide_eq_true (List.mem_filter.mp hb).2
    rcases h with h | ⟨h3, h4⟩
    · omega
    · exact h4
  · obtain ⟨r, hr, rfl⟩ := List.mem_map.mp ha
    obtain ⟨q, hq, rfl⟩ := List.mem_map.mp hb
    have h1 := of_decide_eq_true (List.mem_filter.mp hr).2
    have h2 := of_decide_eq_true (List.mem_filter.mp hq).2
    have h3 := g.ok r (List.mem_filter.mp hr).1
    have h4 := g.ok q (List.mem_filter.mp hq).1
    omega
theorem intsD_nat (l : List Nat) : intsD (l.map encN) = some (l.map fun x : Nat => (x : Int)) := by
  have := intsD_of (l.map fun x : Nat => (x : Int))
  rw [List.map_map] at this
  exact this
theorem sorted_nat {l : List Nat} (h : l.Pairwise (· ≤ ·)) : b1v .sorted (nL l) = some (1, nL l) := by
  show (sortD (l.map encN)).map _ = _
  unfold sortD
  rw [intsD_nat]
  show some (1, PyData.list ((isortI (l.map fun x : Nat => (x : Int))).map PyData.int)) = _
  rw [isortI_sorted (by rw [List.pairwise_map]; exact h.imp fun q => by omega), List.map_map]
  rfl
theorem f_nbs {n : Nat} {rs : List Road} (g : GN n rs) (u : Nat) : F_neighbours_of [netD n rs, .int (u : Nat)] = .ok (nL (nbs rs u)) := by
  show runM (q_neighbours_of (netD n rs) (.int (u : Nat))) = _
  unfold q_neighbours_of
  have hl := g.len
  have c1 : (compM (Kr.pv (rs.map encR)) (fun r1 => un3 r1 fun vlow vhigh vmany => keepM (cmpM .eq (Kr.pv vhigh) (Kr.pv (.int (u : Nat)))) (Kr.pv vlow)) : Mx Unit D) = Kr.pv (.list ((rs.filter fun r => decide (r.hi = u)).map fun r => encN r.lo)) := compM_filter _ _ (fun r hr => by
    have e : decide (((r.hi : Nat) : Int) = (u : Nat)) = decide (r.hi = u) := by
      by_cases q : r.hi = u
      · rw [decide_eq_true q, decide_eq_true (by omega)]
      · rw [decide_eq_false q, decide_eq_false (by omega)]
    simp -implicitDefEqProofs only [encR, un3_, cmpM_pv, c_eqI, oM_sm, bd_pv_, keepM_b, e]
    rfl) (sz (by omega))
  have c2 : (compM (Kr.pv (rs.map encR)) (fun r1 => un3 r1 fun vlow vhigh vmany => keepM (cmpM .eq (Kr.pv vlow) (Kr.pv (.int (u : Nat)))) (Kr.pv vhigh)) : Mx Unit D) = Kr.pv (.list ((rs.filter fun r => decide (r.lo = u)).map fun r => encN r.hi)) := compM_filter _ _ (fun r hr => by
    have e : decide (((r.lo : Nat) : Int) = (u : Nat)) = decide (r.lo = u) := by
      by_cases q : r.lo = u
      · rw [decide_eq_true q, decide_eq_true (by omega)]
      · rw [decide_eq_false q, decide_eq_false (by omega)]
    simp -implicitDefEqProofs only [encR, un3_, cmpM_pv, c_eqI, oM_sm, bd_pv_, keepM_b, e]
    rfl) (sz (by omega))
  have f1 := List.length_filter_le (fun r : Road => decide (r.hi = u)) rs
  have f2 := List.length_filter_le (fun r : Road => decide (r.lo = u)) rs
  have ba : binop .add (.list ((rs.filter fun r => decide (r.hi = u)).map fun r => encN r.lo)) (.list ((rs.filter fun r => decide (r.lo = u)).map fun r => encN r.hi)) = some (1, nL (nbs rs u)) := by
    rw [bin_ll (by rw [List.length_map, List.length_map]; exact sz (by omega))]
    unfold nbs
    show _ = some (1, PyData.list (List.map encN (_ ++ _)))
    rw [List.map_append, List.map_map, List.map_map]
    rfl
  have so := sorted_nat ((nbs_srt g u).imp fun q => Nat.le_of_lt q)
  simp -implicitDefEqProofs only [ixM_pv, gt2_1, oM_sm, seqI_l, c1, c2, bd_pv_, opM_pv, ba, dep_ok (show 0 ≤ 1 by omega), b1M_pv, so, rtM_, runM_r]
theorem mem_nbs {rs : List Road} {u v : Nat} : v ∈ nbs rs u ↔ ∃ r ∈ rs, (r.lo = v ∧ r.hi = u) ∨ (r.lo = u ∧ r.hi = v) := by
  unfold nbs
  rw [List.mem_append, List.mem_map, List.mem_map]
  constructor
  · rintro (⟨r, hr, e⟩ | ⟨r, hr, e⟩)
    · obtain ⟨h1, h2⟩ := List.mem_filter.mp hr
      exact ⟨r, h1, .inl ⟨e, of_decide_eq_true h2⟩⟩
    · obtain ⟨h1, h2⟩ := List.mem_filter.mp hr
      exact ⟨r, h1, .inr ⟨of_decide_eq_true h2, e⟩⟩
  · rintro ⟨r, hr, ⟨h1, h2⟩ | ⟨h1, h2⟩⟩
    · exact .inl ⟨r, List.mem_filter.mpr ⟨hr, decide_eq_true h2⟩, h1⟩
    · exact .inr ⟨r, List.mem_filter.mpr ⟨hr, decide_eq_true h1⟩, h2⟩
end Kz

set_option Elab.async false
set_option linter.all false
set_option maxRecDepth 100000
set_option maxHeartbeats 1000000
namespace Kz
open PySem PySem.Spec PyProof.Rows L2 Kr
/-! ### keys at an end -/
def kw : List Road → List Nat → Nat → Nat → Option Nat
  | r :: rs, x :: s, u, v => if r.lo = u ∧ r.hi = v then some x else if r.lo = v ∧ r.hi = u then some (r.many - x) else kw rs s u v
  | _, _, _, _ => none
def oN : Option Nat → D
  | none => .none
  | some k => .int (k : Nat)
theorem c_eqT {a b c d : Int} : cmpop .eq (.tuple [.int a, .int b]) (.tuple [.int c, .int d]) = some (decide (a = c ∧ b = d)) := by
  show some ((a == c) && ((b == d) && true)) = _
  by_cases h1 : a = c <;> by_cases h2 : b = d <;> simp [h1, h2]
theorem dec_nat {a b : Nat} : decide (((a : Nat) : Int) = ((b : Nat) : Int)) = decide (a = b) := by
  by_cases q : a = b
  · rw [decide_eq_true q, decide_eq_true (by omega)]
  · rw [decide_eq_false q, decide_eq_false (by omega)]
theorem dec_nat2 {a b c d : Nat} : decide (((a : Nat) : Int) = ((c : Nat) : Int) ∧ ((b : Nat) : Int) = ((d : Nat) : Int)) = decide (a = c ∧ b = d) := by
  by_cases q : a = c ∧ b = d
  · rw [decide_eq_true q, decide_eq_true (by omega)]
  · rw [decide_eq_false q, decide_eq_false (by omega)]
/-! the program's way to them -/
def kidx : List Road → Nat → Nat → Option Nat
  | [], _, _ => none
  | r :: rs, u, v => if (r.lo = u ∧ r.hi = v) ∨ (r.lo = v ∧ r.hi = u) then some 0 else (kidx rs u v).map (· + 1)
theorem kw_idx : ∀ (rs : List Road) (s : List Nat) (u v : Nat), s.length = rs.length → (∀ r ∈ rs, r.lo < r.hi) → ∀ k, kw rs s u v = some k → ∃ i r x, kidx rs u v = some i ∧ rs[i]? = some r ∧ s[i]? = some x ∧ ((u < v ∧ k = x) ∨ (v < u ∧ k = r.many - x))
  | [], s, u, v, _, _, k, h => by cases s <;> simp [kw] at h
  | r :: rs, [], u, v, hl, _, k, h => by simp at hl
  | r :: rs, x :: s, u, v, hl, ho, k, h => by
    have hr := ho r List.mem_cons_self
    rw [kw] at h
    by_cases h1 : r.lo = u ∧ r.hi = v
    · rw [if_pos h1] at h
      cases h
      refine ⟨0, r, x, by rw [kidx, if_pos (.inl h1)], rfl, rfl, .inl ⟨by omega, rfl⟩⟩
    · rw [if_neg h1] at h
      by_cases h2 : r.lo = v ∧ r.hi = u
      · rw [if_pos h2] at h
        cases h
        refine ⟨0, r, x, by rw [kidx, if_pos (.inr h2)], rfl, rfl, .inr ⟨by omega, rfl⟩⟩
      · rw [if_neg h2] at h
        obtain ⟨i, r', x', e1, e2, e3, e4⟩ := kw_idx rs s u v (by simpa using hl) (fun q hq => ho q (List.mem_cons_of_mem _ hq)) k h
        refine ⟨i + 1, r', x', by rw [kidx, if_neg (fun z => z.elim h1 h2), e1]; rfl, by simpa using e2, by simpa using e3, e4⟩
theorem shaped_ok {w k : Nat} {d : D} (h : Ok false w k d) (hk : k ≤ 60) : SeqAt.shaped d = true := by
  unfold SeqAt.shaped
  have h1 := leaf_lay d h.leaf
  have h2 := h.depth
  simp only [h1, Bool.true_and, decide_eq_true_eq]
  omega
theorem find_idx {u v : Nat} : ∀ (rs : List Road) (k : Nat), (∀ r ∈ rs, r.lo < r.hi) → findD (.tuple [.int (if (v : Int) < (u : Nat) then (v : Nat) else (u : Nat)), .int (if (v : Int) > (u : Nat) then (v : Nat) else (u : Nat))]) (rs.map fun r => PyData.tuple [.int (r.lo : Nat), .int (r.hi : Nat)]) k = (kidx rs u v).map (· + k)
  | [], k, _ => rfl
  | r :: rs, k, ho => by
    have hr := ho r List.mem_cons_self
    rw [List.map_cons, findD, kidx]
    have e : PyData.eqv (.tuple [.int (r.lo : Nat), .int (r.hi : Nat)]) (.tuple [.int (if (v : Int) < (u : Nat) then (v : Nat) else (u : Nat)), .int (if (v : Int) > (u : Nat) then (v : Nat) else (u : Nat))]) = decide ((r.lo = u ∧ r.hi = v) ∨ (r.lo = v ∧ r.hi = u)) := by
      have e0 := c_eqT (a := (r.lo : Nat)) (b := (r.hi : Nat)) (c := if (v : Int) < (u : Nat) then (v : Nat) else (u : Nat)) (d := if (v : Int) > (u : Nat) then (v : Nat) else (u : Nat))
      have e1 : cmpop .eq (.tuple [.int (r.lo : Nat), .int (r.hi : Nat)]) (.tuple [.int (if (v : Int) < (u : Nat) then (v : Nat) else (u : Nat)), .int (if (v : Int) > (u : Nat) then (v : Nat) else (u : Nat))]) = some (PyData.eqv (.tuple [.int (r.lo : Nat), .int (r.hi : Nat)]) (.tuple [.int (if (v : Int) < (u : Nat) then (v : Nat) else (u : Nat)), .int (if (v : Int) > (u : Nat) then (v : Nat) else (u : Nat))])) := rfl
      rw [e1] at e0
      injection e0 with e0
      rw [e0]
      by_cases q : (r.lo = u ∧ r.hi = v) ∨ (r.lo = v ∧ r.hi = u)
      · rw [decide_eq_true q, decide_eq_true]
        rcases q with ⟨q1, q2⟩ | ⟨q1, q2⟩
        · rw [if_neg (by omega), if_pos (by omega)]; omega
        · rw [if_pos (by omega), if_neg (by omega)]; omega
      · rw [decide_eq_false q, decide_eq_false]
        intro z
        apply q
        split at z <;> split at z <;> omega
    rw [e]
    by_cases q : (r.lo = u ∧ r.hi = v) ∨ (r.lo = v ∧ r.hi = u)
    · rw [decide_eq_true q, if_pos rfl, if_pos q]
      simp
    · rw [decide_eq_false q, if_neg Bool.false_ne_true, if_neg q, find_idx rs (k + 1) fun x hx => ho x (List.mem_cons_of_mem _ hx)]
      cases kidx rs u v with
      | none => rfl
      | some i => simp; omega
theorem ok_nat {w k : Nat} {x : Nat} (h : x ≤ 1000000) : Ok false w k (.int (x : Nat)) := Ok.int (Nat.lt_of_le_of_lt (show ((x : Nat) : Int).natAbs ≤ 1000000 by omega) (by decide +kernel))
theorem f_roadat {n : Nat} {rs : List Road} (g : GN n rs) {u v i : Nat} (hu : u < n) (hv : v < n) (h : kidx rs u v = some i) : F_road_at [netD n rs, .int (u : Nat), .int (v : Nat)] = .ok (.int (i : Nat)) := by
  show runM (q_road_at (netD n rs) (.int (u : Nat)) (.int (v : Nat))) = _
  unfold q_road_at
  have hl := g.len
  have ht := g.top
  have c1 : (compM (Kr.pv (rs.map encR)) (fun r1 => allM (oM (dep 0 (slD r1 none (some 2))))) : Mx Unit D) = Kr.pv (.list (rs.map fun r => PyData.tuple [.int (r.lo : Nat), .int (r.hi : Nat)])) := compM_map _ (fun r hr => rfl) (sz (by omega))
  have fi := find_idx (u := u) (v := v) rs 0 fun r hr => (g.ok r hr).1
  rw [h] at fi
  have sh1 : SeqAt.shaped (.list (rs.map fun r => PyData.tuple [.int (r.lo : Nat), .int (r.hi : Nat)])) = true := by
    refine shaped_ok (k := 2) (Ok.list (n := 66) (w := 2) (k := 1) (fun x hx => ?_) (by rw [List.length_map]; exact hl)) (by omega)
    obtain ⟨r, hr, rfl⟩ := List.mem_map.mp hx
    have := g.ok r hr
    refine Ok.tuple (n := 2) (w := 0) (k := 0) (fun y hy => ?_) (by simp)
    simp only [List.mem_cons, List.not_mem_nil, or_false] at hy
    rcases hy with rfl | rfl
    · exact ok_nat (by omega)
    · exact ok_nat (by omega)
  have ix : b2v .index (.list (rs.map fun r => PyData.tuple [.int (r.lo : Nat), .int (r.hi : Nat)])) (.tuple [.int (if (v : Int) < (u : Nat) then (v : Nat) else (u : Nat)), .int (if (v : Int) > (u : Nat) then (v : Nat) else (u : Nat))]) = some (0, .int (i : Nat)) := by
    show (if SeqAt.shaped _ && SeqAt.shaped _ then (findD _ _ 0).map _ else none) = _
    rw [sh1, fi]
    rfl
  simp -implicitDefEqProofs only [ixM_pv, gt2_1, oM_sm, seqI_l, noP_, exP_, slM_pv, c1, b2M_pv, b2_min, b2_max, dep_00, tup2, mthM_pv, ix, rtM_, runM_r]
theorem f_keys {n : Nat} {rs : List Road} {s : List Nat} (g : GN n rs) (h : GS rs s) {u v k : Nat} (hu : u < n) (hv : v < n) (e : kw rs s u v = some k) : F_keys_in [netD n rs, nL s, .int (u : Nat), .int (v : Nat)] = .ok (.int (k : Nat)) := by
  obtain ⟨i, r, x, e1, e2, e3, e4⟩ := kw_idx rs s u v h.len (fun r hr => (g.ok r hr).1) k e
  show runM (q_keys_in (netD n rs) (nL s) (.int (u : Nat)) (.int (v : Nat))) = _
  unfold q_keys_in
  have ra := f_roadat g hu hv e1
  have g1 : getI (nL s) ((i : Nat) : Int) = some (.int (x : Nat)) := get_nat? (by rw [List.getElem?_map, e3]; rfl)
  have g2 : getI (.list (rs.map encR)) ((i : Nat) : Int) = some (encR r) := get_nat? (by rw [List.getElem?_map, e2]; rfl)
  have g3 : getI (encR r) 2 = some (.int (r.many : Nat)) := rfl
  have hx : x ≤ r.many := by
    refine h.ok (x, r) ?_
    refine List.mem_of_getElem? (i := i) ?_
    rw [List.getElem?_zip_eq_some]
    exact ⟨e3, e2⟩
  rcases e4 with ⟨q, rfl⟩ | ⟨q, rfl⟩
  · have t : decide (((u : Nat) : Int) < (v : Nat)) = true := decide_eq_true (by omega)
    simp -implicitDefEqProofs only [call3, ra, lf_ok, bd_pv_, cmpM_pv, c_gtI, t, oM_sm, tsM_b, iteM_t, ixM_pv, g1, rtM_, runM_r]
  · have t : decide (((u : Nat) : Int) < (v : Nat)) = false := decide_eq_false (by omega)
    have es : ((r.many : Nat) : Int) - (x : Nat) = ((r.many - x : Nat) : Int) := by omega
    simp -implicitDefEqProofs only [call3, ra, lf_ok, bd_pv_, cmpM_pv, c_gtI, t, oM_sm, tsM_b, iteM_f, ixM_pv, g1, gt2_1, g2, g3, opM_pv, bin_ii, iop_sub, Option.map_some, dep_00, es, rtM_, runM_r]
end Kz

set_option Elab.async false
set_option linter.all false
set_option maxRecDepth 100000
set_option maxHeartbeats 1000000
namespace Kz
open PySem PySem.Spec PyProof.Rows L2 Kr Kt
/-! ### directions, lengths -/
theorem forG_foldE {σ ρ γ A T : Type} {f : D → ρ → Mx σ (Oc ρ ρ)} {enc : T → D} {encS : A → ρ} (Inv : A → Prop) (g : A → T → A) : ∀ (ts : List T) (a : A), (∀ t ∈ ts, ∀ a, Inv a → f (enc t) (encS a) = Kr.pv (.nx (encS (g a t))) ∧ Inv (g a t)) → Inv a → (forG f (ts.map enc) (encS a) : Mx σ (Oc ρ γ)) = Kr.pv (.nx (encS (ts.foldl g a))) ∧ Inv (ts.foldl g a)
  | [], a, _, h => ⟨rfl, h⟩
  | t :: ts, a, st, h => by
    obtain ⟨e, h'⟩ := st t List.mem_cons_self a h
    rw [List.map_cons, forG_cons, e]
    exact forG_foldE Inv g ts (g a t) (fun t' q => st t' (List.mem_cons_of_mem _ q)) h'
def encP (p : Nat × Nat) : D := .tuple [.int (p.1 : Nat), .int (p.2 : Nat)]
theorem mem_insT {x y : List Int} : ∀ {l : List (List Int)}, y ∈ insT x l ↔ y = x ∨ y ∈ l
  | [] => by simp [insT]
  | z :: l => by
    rw [insT]
    split
    · simp
    · rw [List.mem_cons, mem_insT (l := l), List.mem_cons]
      constructor
      · rintro (h | h | h)
        · exact .inr (.inl h)
        · exact .inl h
        · exact .inr (.inr h)
      · rintro (h | h | h)
        · exact .inr (.inl h)
        · exact .inl h
        · exact .inr (.inr h)
theorem mem_isortT {y : List Int} : ∀ {l : List (List Int)}, y ∈ isortT l ↔ y ∈ l
  | [] => Iff.rfl
  | x :: l => by
    show y ∈ insT x (isortT l) ↔ _
    rw [mem_insT, mem_isortT, List.mem_cons]
theorem insT_len {x : List Int} : ∀ {l : List (List Int)}, (insT x l).length = l.length + 1
  | [] => rfl
  | y :: l => by
    rw [insT]
    split
    · rfl
    · rw [List.length_cons, insT_len (l := l), List.length_cons]
theorem isortT_len : ∀ {l : List (List Int)}, (isortT l).length = l.length
  | [] => rfl
  | x :: l => by
    show (insT x (isortT l)).length = _
    rw [insT_len, isortT_len]; rfl
theorem tupsD_pairs : ∀ (P : List (Nat × Nat)), tupsD (P.map encP) = some (P.map fun p => [(p.1 : Int), (p.2 : Int)])
  | [] => rfl
  | p :: P => by
    rw [List.map_cons, encP, tupsD, tupsD_pairs P]
    rfl
theorem sort_pairs (P : List (Nat × Nat)) (hl : P.length < 64) : ∃ L : List (Nat × Nat), b1v .sorted (.list (P.map encP)) = some (1, .list (L.map encP)) ∧ (∀ p, p ∈ L ↔ p ∈ P) ∧ L.length = P.length := by
  cases P with
  | nil => exact ⟨[], rfl, (fun p => Iff.rfl), rfl⟩
  | cons p0 P =>
    have e1 : intsD ((p0 :: P).map encP) = none := rfl
    obtain ⟨ts, hts⟩ : ∃ ts, ts = (p0 :: P).map fun p => [(p.1 : Int), (p.2 : Int)] := ⟨_, rfl⟩
    have e2 := tupsD_pairs (p0 :: P)
    rw [← hts] at e2
    have e3 : (ts.headD []).length = 2 := by rw [hts]; rfl
    have e4 : (decide (ts.length < 64) && ts.all (fun t => t.length == (ts.headD []).length && t.all (fun i => decide (0 ≤ i))) && decide (0 < (ts.headD []).length)) = true := by
      rw [e3, hts]
      have : decide (((p0 :: P).map fun p => [(p.1 : Int), (p.2 : Int)]).length < 64) = true := decide_eq_true (by rw [List.length_map]; exact hl)
      rw [this]
      simp
    obtain ⟨L, hL⟩ : ∃ L : List (Nat × Nat), L = (isortT ts).map fun t => ((t.headD 0).toNat, ((t.drop 1).headD 0).toNat) := ⟨_, rfl⟩
    have form : ∀ t ∈ isortT ts, ∃ p ∈ p0 :: P, t = [(p.1 : Int), (p.2 : Int)] := fun t ht => by
      rw [mem_isortT, hts] at ht
      obtain ⟨p, hp, rfl⟩ := List.mem_map.mp ht
      exact ⟨p, hp, rfl⟩
    refine ⟨L, ?_, fun p => ?_, by rw [hL, List.length_map, isortT_len, hts, List.length_map]⟩
    · show (sortD ((p0 :: P).map encP)).map _ = _
      unfold sortD
      rw [e1]
      show ((tupsD ((p0 :: P).map encP)).bind _).map _ = _
      rw [e2]
      show (if _ then some ((isortT ts).map tupD) else none).map _ = _
      rw [if_pos e4, hL, List.map_map]
      refine congrArg (fun x => some (1, PyData.list x)) (List.map_congr_left fun t ht => ?_)
      obtain ⟨p, _, rfl⟩ := form t ht
      simp [encP, tupD]
    · rw [hL, List.mem_map]
      constructor
      · rintro ⟨t, ht, e⟩
        obtain ⟨q, hq, rfl⟩ := form t ht
        rw [← e]
        simpa using hq
      · intro hp
        refine ⟨[(p.1 : Int), (p.2 : Int)], ?_, by simp⟩
        rw [mem_isortT, hts]
        exact List.mem_map.mpr ⟨p, hp, rfl⟩
def Joins (rs : List Road) (u v : Nat) : Prop := ∃ r ∈ rs, (r.lo = u ∧ r.hi = v) ∨ (r.lo = v ∧ r.hi = u)
theorem kw_some : ∀ {rs : List Road} {s : List Nat} {u v : Nat}, s.length = rs.length → ((∃ k, kw rs s u v = some k) ↔ Joins rs u v)
  | [], s, u, v, h => by cases s <;> simp [kw, Joins]
  | r :: rs, [], u, v, h => by simp at h
  | r :: rs, x :: s, u, v, h => by
    have ih := kw_some (rs := rs) (s := s) (u := u) (v := v) (by simpa using h)
    rw [kw]
    by_cases h1 : r.lo = u ∧ r.hi = v
    · rw [if_pos h1]
      exact ⟨fun _ => ⟨r, List.mem_cons_self, .inl h1⟩, fun _ => ⟨_, rfl⟩⟩
    · rw [if_neg h1]
      by_cases h2 : r.lo = v ∧ r.hi = u
      · rw [if_pos h2]
        exact ⟨fun _ => ⟨r, List.mem_cons_self, .inr h2⟩, fun _ => ⟨_, rfl⟩⟩
      · rw [if_neg h2, ih]
        constructor
        · rintro ⟨q, hq, e⟩
          exact ⟨q, List.mem_cons_of_mem _ hq, e⟩
        · rintro ⟨q, hq, e⟩
          rcases List.mem_cons.mp hq with rfl | hq
          · rcases e with e | e
            · exact absurd e h1
            · exact absurd e h2
          · exact ⟨q, hq, e⟩
theorem Joins.lt {n : Nat} {rs : List Road} (g : GN n rs) {u v : Nat} (h : Joins rs u v) : u < n ∧ v < n ∧ u ≠ v := by
  obtain ⟨r, hr, e⟩ := h
  have := g.ok r hr
  rcases e with ⟨h1, h2⟩ | ⟨h1, h2⟩ <;> omega
theorem kw_lt {n : Nat} {rs : List Road} {s : List Nat} (g : GN n rs) (h : GS rs s) : ∀ u v c, kw rs s u v = some c → u < n ∧ v < n := fun u v c e => by
  have := ((kw_some h.len).mp ⟨c, e⟩).lt g
  exact ⟨this.1, this.2.1⟩
theorem kw_ne {n : Nat} {rs : List Road} {s : List Nat} (g : GN n rs) (h : GS rs s) : ∀ u v c, kw rs s u v = some c → u ≠ v := fun u v c e => (((kw_some h.len).mp ⟨c, e⟩).lt g).2.2
theorem f_dirs {n : Nat} {rs : List Road} (g : GN n rs) (h32 : rs.length < 32) : ∃ L : List (Nat × Nat), F_directions_of [netD n rs] = .ok (.list (L.map encP)) ∧ (∀ u v, (u, v) ∈ L ↔ Joins rs u v) ∧ L.length ≤ 62 := by
  have c1 : (compM (Kr.pv (rs.map encR)) (fun r1 => un3 r1 fun vlow vhigh vmany => allM (tupM [Kr.pv vlow, Kr.pv vhigh])) : Mx Unit D) = Kr.pv (.list (rs.map fun r => encP (r.lo, r.hi))) := compM_map _ (fun r hr => by
    simp -implicitDefEqProofs only [encR, un3_, tup2, allM_]; rfl) (sz (by omega))
  have c2 : (compM (Kr.pv (rs.map encR)) (fun r1 => un3 r1 fun vlow vhigh vmany => allM (tupM [Kr.pv vhigh, Kr.pv vlow])) : Mx Unit D) = Kr.pv (.list (rs.map fun r => encP (r.hi, r.lo))) := compM_map _ (fun r hr => by
    simp -implicitDefEqProofs only [encR, un3_, tup2, allM_]; rfl) (sz (by omega))
  obtain ⟨L, eL, hL, hLl⟩ := sort_pairs ((rs.map fun r => (r.lo, r.hi)) ++ rs.map fun r => (r.hi, r.lo)) (by simp; omega)
  have ba : binop .add (.list (rs.map fun r => encP (r.lo, r.hi))) (.list (rs.map fun r => encP (r.hi, r.lo))) = some (1, .list (((rs.map fun r => (r.lo, r.hi)) ++ rs.map fun r => (r.hi, r.lo)).map encP)) := by
    rw [bin_ll (by rw [List.length_map, List.length_map]; exact sz (by omega)), List.map_append, List.map_map, List.map_map]
    rfl
  refine ⟨L, ?_, fun u v => ?_, by rw [hLl]; simp; omega⟩
  · show runM (q_directions_of (netD n rs)) = _
    unfold q_directions_of
    simp -implicitDefEqProofs only [ixM_pv, gt2_1, oM_sm, seqI_l, c1, c2, opM_pv, ba, dep_ok (show 0 ≤ 1 by omega), b1M_pv, eL, rtM_, runM_r]
  · rw [hL, List.mem_append, List.mem_map, List.mem_map]
    constructor
    · rintro (⟨r, hr, e⟩ | ⟨r, hr, e⟩)
      · cases e; exact ⟨r, hr, .inl ⟨rfl, rfl⟩⟩
      · cases e; exact ⟨r, hr, .inr ⟨rfl, rfl⟩⟩
    · rintro ⟨r, hr, ⟨rfl, rfl⟩ | ⟨rfl, rfl⟩⟩
      · exact .inl ⟨r, hr, rfl⟩
      · exact .inr ⟨r, hr, rfl⟩
end Kz

set_option Elab.async false
set_option linter.all false
set_option maxRecDepth 100000
set_option maxHeartbeats 1000000
namespace Kz
open PySem PySem.Spec PyProof.Rows L2 Kr Kt
/-! ### least lengths, by both -/
theorem shaped_nL (l : List Nat) : SeqAt.shaped (nL l) = true := by
  have h1 : PyData.canLayAll0 (l.map encN) = true := by
    induction l with
    | nil => rfl
    | cons x l ih => rw [List.map_cons, PyData.canLayAll0, ih]; rfl
  have h2 : PyData.depthAll (l.map encN) = 0 := by
    clear h1
    induction l with
    | nil => rfl
    | cons x l ih => rw [List.map_cons, PyData.depthAll, ih]; rfl
  unfold SeqAt.shaped
  rw [PyData.canLay0, PyData.depth, h1, h2]
  decide
theorem inD_nat (h : Nat) : ∀ l : List Nat, inD (.int (h : Nat)) (l.map encN) = decide (h ∈ l)
  | [] => rfl
  | x :: l => by
    have ih := inD_nat h l
    show (PyData.eqv (.int (x : Nat)) (.int (h : Nat)) || inD (.int (h : Nat)) (l.map encN)) = _
    rw [ih]
    have e : PyData.eqv (.int (x : Nat)) (.int (h : Nat)) = decide (x = h) := by
      show (((x : Nat) : Int) == ((h : Nat) : Int)) = _
      rw [Bool.beq_eq_decide_eq, dec_nat]
    rw [e]
    by_cases q : x = h
    · subst q; simp
    · have q' : ¬ h = x := fun z => q z.symm
      simp [q, q']
theorem c_isinN (h : Nat) (l : List Nat) : cmpop .isin (.int (h : Nat)) (nL l) = some (decide (h ∈ l)) := by
  show (if SeqAt.shaped (.int (h : Nat)) && SeqAt.shaped (nL l) then some (inD (.int (h : Nat)) (l.map encN)) else none) = _
  rw [shaped_nL, inD_nat]
  rfl
theorem c_notinN (h : Nat) (l : List Nat) : cmpop .notin (.int (h : Nat)) (nL l) = some (!decide (h ∈ l)) := by
  have := c_isinN h l
  show (cmpop .isin (.int (h : Nat)) (nL l)).map (fun b => !b) = _
  rw [this]; rfl
abbrev fD (f : List (Option Nat)) : D := .list (f.map oN)
theorem get_f {f : List (Option Nat)} {u : Nat} (h : u < f.length) : getI (fD f) ((u : Nat) : Int) = some (oN (at_ f u)) := by
  refine get_nat? ?_
  unfold at_
  rw [List.getElem?_map, List.getD_eq_getElem?_getD, List.getElem?_eq_getElem h]
  rfl
theorem setM_f {σ α : Type} {f : List (Option Nat)} {v d : Nat} (h : v < f.length) {k : D → Mx σ α} : setM (Kr.pv (.int (d : Nat))) (Kr.pv (.int (v : Nat))) (fD f) k = k (fD (f.set v (some d))) := by
  unfold setM
  rw [bd_pv_, bd_pv_]
  show bd (oM (ixN (f.map oN).length ((v : Nat) : Int))) _ = _
  have e : ixN (f.map oN).length ((v : Nat) : Int) = some v := by
    unfold ixN
    rw [if_pos (by omega), if_pos (by rw [List.length_map]; omega)]
    simp
  rw [e, oM_sm, bd_pv_]
  show k (.list ((f.map oN).set v (oN (some d)))) = k (.list ((f.set v (some d)).map oN))
  rw [List.map_set]
@[simp] theorem nn_oNn : isNoneD (oN none) = true := rfl
@[simp] theorem nn_oNs {k : Nat} : isNoneD (oN (some k)) = false := rfl
theorem len_one {n : Nat} {rs : List Road} {s : List Nat} (g : GN n rs) (h : GS rs s) (src t : D) {f : List (Option Nat)} {u v : Nat} (hj : Joins rs u v) (hf : f.length = n) : l_lengths_from_0 (netD n rs) (nL s) src t (encP (u, v)) (fD f) = Kr.pv (.nx (fD (relax (kw rs s) f u v))) := by
  obtain ⟨k, hk⟩ := (kw_some h.len).mpr hj
  obtain ⟨hu, hv, _⟩ := hj.lt g
  have gu := get_f (f := f) (u := u) (by omega)
  have gv := get_f (f := f) (u := v) (by omega)
  have fk := f_keys g h hu hv hk
  unfold l_lengths_from_0 encP relax
  cases q : at_ f u with
  | none =>
    rw [q] at gu
    simp -implicitDefEqProofs only [un2_, ixM_pv, gu, oM_sm, cmpM_pv, c_isnotN, nn_oNn, bd_pv_, tsM_b, Bool.not_true, iteM_f, nxM_]
  | some a =>
    rw [q] at gu
    have es : ((a : Nat) : Int) + (k : Nat) = ((a + k : Nat) : Int) := by omega
    simp -implicitDefEqProofs only [un2_, ixM_pv, gu, oM_sm, cmpM_pv, c_isnotN, nn_oNs, bd_pv_, tsM_b, Bool.not_false, iteM_t, call4, fk, lf_ok, gv, hk]
    show bd (opM 0 .add (Kr.pv (.int (a : Nat))) (Kr.pv (.int (k : Nat)))) _ = _
    simp -implicitDefEqProofs only [opM_pv, bin_ii, iop_add, Option.map_some, dep_00, oM_sm, bd_pv_, es]
    cases q2 : at_ f v with
    | none =>
      simp -implicitDefEqProofs only [c_isN, nn_oNn, oM_sm, bd_pv_, orM_t, tsM_b, iteM_t]
      rw [setM_f (by omega), nxM_]
    | some b =>
      simp -implicitDefEqProofs only [c_isN, nn_oNs, oM_sm, bd_pv_, orM_f]
      have cl : cmpop .lt (.int ((a + k : Nat) : Nat)) (oN (some b)) = some (decide (a + k < b)) := by
        show cmpop .lt (.int ((a + k : Nat) : Nat)) (.int (b : Nat)) = _
        rw [c_ltI]
        congr 1
        by_cases z : a + k < b
        · rw [decide_eq_true z, decide_eq_true (by omega)]
        · rw [decide_eq_false z, decide_eq_false (by omega)]
      by_cases z : a + k < b
      · rw [decide_eq_true z] at cl
        simp -implicitDefEqProofs only [cl, oM_sm, bd_pv_, tsM_b, iteM_t, if_pos z]
        rw [setM_f (by omega), nxM_]
      · rw [decide_eq_false z] at cl
        simp -implicitDefEqProofs only [cl, oM_sm, bd_pv_, tsM_b, iteM_f, if_neg z, nxM_]
theorem fold_turns {w : W} {L : List (Nat × Nat)} : ∀ (t k : Nat) (f : List (Option Nat)), (List.range' k t).foldl (fun f _ => turn w L f) f = turns w L t f
  | 0, k, f => rfl
  | t + 1, k, f => by
    rw [List.range'_succ, List.foldl_cons, turns]
    exact fold_turns t (k + 1) _
/-- what both compute -/
def lens (n : Nat) (rs : List Road) (s src : List Nat) : List (Option Nat) := turns (kw rs s) (rs.map (fun r => (r.lo, r.hi)) ++ rs.map fun r => (r.hi, r.lo)) n (start (fun h => decide (h ∈ src)) n)
theorem mem_ds {rs : List Road} {s : List Nat} (h : GS rs s) : ∀ u v c, kw rs s u v = some c → (u, v) ∈ rs.map (fun r => (r.lo, r.hi)) ++ rs.map fun r => (r.hi, r.lo) := fun u v c e => by
  obtain ⟨r, hr, h1 | h1⟩ := (kw_some h.len).mp ⟨c, e⟩
  · exact List.mem_append_left _ (List.mem_map.mpr ⟨r, hr, by rw [h1.1, h1.2]⟩)
  · exact List.mem_append_right _ (List.mem_map.mpr ⟨r, hr, by rw [h1.1, h1.2]⟩)
theorem lens_eq {n t : Nat} {rs : List Road} {s src : List Nat} (g : GN n rs) (h : GS rs s) (hs : ∀ x ∈ src, x < n) {L : List (Nat × Nat)} (hL : ∀ u v, (u, v) ∈ L ↔ Joins rs u v) (ht : n ≤ t) : turns (kw rs s) L t (start (fun h => decide (h ∈ src)) n) = lens n rs s src :=
  lengths_eq (S := fun h => decide (h ∈ src)) (fun x hx => hs x (of_decide_eq_true hx)) (fun u v c e => (hL u v).mpr ((kw_some h.len).mp ⟨c, e⟩)) (mem_ds h) (kw_lt g h) ht (Nat.le_refl n)
theorem start_D (n : Nat) (hn : n ≤ 100) (src : List Nat) : (compM (Kr.pv (rangeD 0 n)) (fun r1 => allM (iteM (tsM (cmpM .isin (Kr.pv r1) (Kr.pv (nL src)))) (Kr.pv (.int 0)) (Kr.pv .none))) : Mx Unit D) = Kr.pv (fD (start (fun h => decide (h ∈ src)) n)) := by
  have e : rangeD 0 n = (List.range n).map encN := by
    unfold rangeD encN
    simp
  rw [e, compM_map (T := Nat) (enc := encN) (fun h => oN (if decide (h ∈ src) = true then some 0 else none)) (fun h hh => ?_) (by rw [List.length_range]; exact sz (by omega))]
  · unfold Kt.start
    show _ = Kr.pv (PyData.list (List.map oN (List.map _ _)))
    rw [List.map_map]
    rfl
  · unfold encN
    rw [cmpM_pv, c_isinN, oM_sm, bd_pv_, tsM_b]
    by_cases q : h ∈ src
    · rw [decide_eq_true q, iteM_t, allM_, if_pos rfl]; rfl
    · rw [decide_eq_false q, iteM_f, allM_, if_neg Bool.false_ne_true]; rfl
theorem range_map (n : Nat) : rangeD 0 n = (List.range' 0 n).map fun k => PyData.int ((0 : Int) + (k : Nat)) := by
  unfold rangeD
  rw [List.range_eq_range']
theorem f_lens {n : Nat} {rs : List Road} {s src : List Nat} (g : GN n rs) (h : GS rs s) (h32 : rs.length < 32) (hs : ∀ x ∈ src, x < n) : F_lengths_from [netD n rs, nL s, nL src] = .ok (fD (lens n rs s src)) := by
  show runM (q_lengths_from (netD n rs) (nL s) (nL src)) = _
  unfold q_lengths_from
  have ht := g.top
  obtain ⟨L, eL, hL, _⟩ := f_dirs g h32
  have inner : ∀ (t : D) (f : List (Option Nat)), f.length = n → l_lengths_from_1 (netD n rs) (nL s) (nL src) t (fD f) = Kr.pv (.nx (fD (turn (kw rs s) L f))) := fun t f hf => by
    unfold l_lengths_from_1
    rw [call1, eL, lf_ok, seqI_l, forM_]
    obtain ⟨e, _⟩ := forG_foldE (σ := Unit) (γ := D) (f := l_lengths_from_0 (netD n rs) (nL s) (nL src) t) (enc := encP) (encS := fD) (fun f => f.length = n) (fun f p => relax (kw rs s) f p.1 p.2) L f (fun p hp f hf => ⟨len_one g h (nL src) t ((hL p.1 p.2).mp hp) hf, by rw [relax_len]; exact hf⟩) hf
    rw [e, sqO_n, nxM_]
    rfl
  have r1 : (rg1 (Kr.pv (.int (n : Nat))) : Mx Unit (List D)) = Kr.pv (rangeD 0 n) := by rw [rg1_pv (by omega)]; simp
  rw [ixM_pv, gt2_0, oM_sm, r1, start_D n (by omega) src, bd_pv_, forM_, range_map n]
  obtain ⟨e, _⟩ := forG_foldE (σ := Unit) (γ := Empty) (f := l_lengths_from_1 (netD n rs) (nL s) (nL src)) (enc := fun k : Nat => PyData.int ((0 : Int) + (k : Nat))) (encS := fD) (fun f => f.length = n) (fun f _ => turn (kw rs s) L f) (List.range' 0 n) (start (fun h => decide (h ∈ src)) n) (fun k hk f hf => ⟨inner _ f hf, by rw [turn_len]; exact hf⟩) (by simp [Kt.start])
  rw [e, sqO_n, rtM_, runM_r, fold_turns, lens_eq g h hs hL (Nat.le_refl n)]
end Kz

set_option Elab.async false
set_option linter.all false
set_option maxRecDepth 100000
set_option maxHeartbeats 1000000
namespace Kz
open PySem PySem.Spec PyProof.Rows L2 Kr Kt
/-! ### sorted sets -/
theorem mem_insU {x y : Int} : ∀ {l : List Int}, y ∈ insU x l ↔ y = x ∨ y ∈ l
  | [] => by simp [insU]
  | z :: l => by
    rw [insU]
    split
    · simp
    · split
      · rename_i h1 h2
        subst h2
        simp
      · rw [List.mem_cons, mem_insU (l := l), List.mem_cons]
        constructor
        · rintro (h | h | h)
          · exact .inr (.inl h)
          · exact .inl h
          · exact .inr (.inr h)
        · rintro (h | h | h)
          · exact .inr (.inl h)
          · exact .inl h
          · exact .inr (.inr h)
theorem mem_usort {y : Int} : ∀ {l : List Int}, y ∈ usort l ↔ y ∈ l
  | [] => Iff.rfl
  | x :: l => by
    show y ∈ insU x (usort l) ↔ _
    rw [mem_insU, mem_usort, List.mem_cons]
theorem insU_srt {x : Int} : ∀ {l : List Int}, l.Pairwise (· < ·) → (insU x l).Pairwise (· < ·)
  | [], _ => by simp [insU]
  | y :: l, h => by
    have h' := List.pairwise_cons.mp h
    rw [insU]
    split
    · rename_i q
      refine List.pairwise_cons.mpr ⟨fun z hz => ?_, h⟩
      rcases List.mem_cons.mp hz with rfl | hz
      · exact q
      · exact Int.lt_trans q (h'.1 z hz)
    · split
      · exact h
      · rename_i q1 q2
        refine List.pairwise_cons.mpr ⟨fun z hz => ?_, insU_srt h'.2⟩
        rcases mem_insU.mp hz with rfl | hz
        · omega
        · exact h'.1 z hz
theorem usort_srt : ∀ {l : List Int}, (usort l).Pairwise (· < ·)
  | [] => List.Pairwise.nil
  | x :: l => insU_srt (usort_srt (l := l))
def usN (l : List Nat) : List Nat := (usort (l.map fun x : Nat => (x : Int))).map Int.toNat
theorem usN_pos {l : List Nat} : ∀ y ∈ usort (l.map fun x : Nat => (x : Int)), 0 ≤ y := fun y hy => by
  rw [mem_usort] at hy
  obtain ⟨x, _, rfl⟩ := List.mem_map.mp hy
  omega
theorem mem_usN {l : List Nat} {v : Nat} : v ∈ usN l ↔ v ∈ l := by
  unfold usN
  rw [List.mem_map]
  constructor
  · rintro ⟨y, hy, rfl⟩
    rw [mem_usort] at hy
    obtain ⟨x, hx, rfl⟩ := List.mem_map.mp hy
    simpa using hx
  · intro h
    exact ⟨(v : Int), mem_usort.mpr (List.mem_map.mpr ⟨v, h, rfl⟩), by simp⟩
theorem usN_srt {l : List Nat} : (usN l).Pairwise (· < ·) := by
  unfold usN
  rw [List.pairwise_map]
  refine (usort_srt (l := l.map fun x : Nat => (x : Int))).imp_of_mem fun {a b} ha hb h => ?_
  have := usN_pos a ha
  have := usN_pos b hb
  omega
theorem sset_nat {l : List Nat} (h : l.length < 64) : b1v .sset (nL l) = some (1, nL (usN l)) := by
  show (intsD (l.map encN)).bind _ = _
  rw [intsD_nat]
  show (if (l.map fun x : Nat => (x : Int)).length < 64 then _ else _) = _
  rw [if_pos (by rw [List.length_map]; exact h)]
  unfold usN
  show some (1, PyData.list _) = some (1, PyData.list (List.map encN (List.map Int.toNat _)))
  rw [List.map_map]
  refine congrArg (fun x => some (1, PyData.list x)) (List.map_congr_left fun y hy => ?_)
  have := usN_pos y hy
  show PyData.int y = .int ((y.toNat : Nat) : Int)
  rw [Int.toNat_of_nonneg this]
theorem srt_nodup {l : List Nat} (h : l.Pairwise (· < ·)) : l.Nodup := h.imp fun q => by omega
/-! ### stuck houses, by the program -/
def zn (rs : List Road) (s : List Nat) (u : Nat) : List Nat := (nbs rs u).filter fun v => decide (kw rs s u v = some 0)
theorem joins_nbs {rs : List Road} {u v : Nat} : v ∈ nbs rs u ↔ Joins rs u v := by
  rw [mem_nbs]
  constructor
  · rintro ⟨r, hr, h | h⟩
    · exact ⟨r, hr, .inr h⟩
    · exact ⟨r, hr, .inl h⟩
  · rintro ⟨r, hr, h | h⟩
    · exact ⟨r, hr, .inr h⟩
    · exact ⟨r, hr, .inl h⟩
theorem Joins.symm {rs : List Road} {u v : Nat} (h : Joins rs u v) : Joins rs v u := by
  obtain ⟨r, hr, h | h⟩ := h
  · exact ⟨r, hr, .inr h⟩
  · exact ⟨r, hr, .inl h⟩
theorem mem_zn {rs : List Road} {s : List Nat} (h : GS rs s) {u v : Nat} : v ∈ zn rs s u ↔ kw rs s u v = some 0 := by
  unfold zn
  rw [List.mem_filter, decide_eq_true_eq, joins_nbs]
  constructor
  · exact fun z => z.2
  · exact fun z => ⟨(kw_some h.len).mp ⟨0, z⟩, z⟩
theorem comp_zn {n : Nat} {rs : List Road} {s : List Nat} (g : GN n rs) (h : GS rs s) {u : Nat} (hu : u < n) : (compM (Kr.pv ((nbs rs u).map encN)) (fun r3 => keepM (cmpM .eq (callM F_keys_in [Kr.pv (netD n rs), Kr.pv (nL s), Kr.pv (.int (u : Nat)), Kr.pv r3]) (Kr.pv (.int 0))) (Kr.pv r3)) : Mx Unit D) = Kr.pv (nL (zn rs s u)) := by
  have hl : (nbs rs u).length ≤ 12 := by
    have := nodup_short n _ (srt_nodup (nbs_srt g u)) fun x hx => ((joins_nbs.mp hx).lt g).2.1
    have := g.top
    omega
  rw [compM_filter (T := Nat) (enc := encN) (fun v => decide (kw rs s u v = some 0)) encN (fun v hv => ?_) (sz (by omega))]
  · rfl
  · obtain ⟨k, hk⟩ := (kw_some h.len).mpr (joins_nbs.mp hv)
    have hv' := ((joins_nbs.mp hv).lt g).2.1
    have fk := f_keys g h hu hv' hk
    have e : decide (((k : Nat) : Int) = 0) = decide (kw rs s u v = some 0) := by
      rw [hk]
      by_cases q : k = 0
      · subst q; simp
      · rw [decide_eq_false (by omega), decide_eq_false (by simpa using q)]
    simp -implicitDefEqProofs only [encN, call4, fk, lf_ok, cmpM_pv, c_eqI, oM_sm, bd_pv_, keepM_b, e]
theorem sum_le_nodup {R : List Nat} (hd : R.Nodup) (x : Nat) : (R.map fun u => if x = u then 1 else 0).sum ≤ 1 := by
  induction R with
  | nil => simp
  | cons y R ih =>
    rw [List.nodup_cons] at hd
    rw [List.map_cons, List.sum_cons]
    by_cases q : x = y
    · subst q
      have : (R.map fun u => if x = u then 1 else 0).sum = 0 := by
        have hm := hd.1
        clear ih hd
        induction R with
        | nil => rfl
        | cons z R ih =>
          rw [List.map_cons, List.sum_cons, ih (fun c => hm (List.mem_cons_of_mem _ c)), if_neg (fun e : x = z => hm (by rw [e]; exact List.mem_cons_self))]
      rw [if_pos rfl, this]
      omega
    · rw [if_neg q]
      have := ih hd.2
      omega
theorem sum_add {R : List Nat} (f g : Nat → Nat) : (R.map fun u => f u + g u).sum = (R.map f).sum + (R.map g).sum := by
  induction R with
  | nil => rfl
  | cons x R ih => simp only [List.map_cons, List.sum_cons, ih]; omega
theorem nbs_sum {R : List Nat} (hd : R.Nodup) : ∀ rs : List Road, (R.map fun u => (nbs rs u).length).sum ≤ 2 * rs.length
  | [] => by
    have : (R.map fun u => (nbs [] u).length).sum = 0 := by
      clear hd
      induction R with
      | nil => rfl
      | cons x R ih => rw [List.map_cons, List.sum_cons, ih]; rfl
    omega
  | r :: rs => by
    have ih := nbs_sum hd rs
    have e : (R.map fun u => (nbs (r :: rs) u).length) = R.map fun u => ((if r.hi = u then 1 else 0) + (if r.lo = u then 1 else 0)) + (nbs rs u).length := by
      refine List.map_congr_left fun u _ => ?_
      unfold nbs
      rw [List.filter_cons, List.filter_cons]
      simp only [List.length_append, List.length_map, decide_eq_true_eq]
      split <;> split <;> simp <;> omega
    rw [e, sum_add, sum_add]
    have h1 := sum_le_nodup hd r.hi
    have h2 := sum_le_nodup hd r.lo
    rw [List.length_cons]
    omega
theorem flat_len {rs : List Road} {s : List Nat} : ∀ R : List Nat, (R.flatMap (zn rs s)).length ≤ (R.map fun u => (nbs rs u).length).sum
  | [] => by simp
  | x :: R => by
    have := flat_len (rs := rs) (s := s) R
    have h2 : (zn rs s x).length ≤ (nbs rs x).length := List.length_filter_le _ _
    rw [List.flatMap_cons, List.length_append, List.map_cons, List.sum_cons]
    omega
def fa (rs : List Road) (s R : List Nat) : List Nat := usN (R.flatMap (zn rs s))
theorem f_fa {n : Nat} {rs : List Road} {s R : List Nat} (g : GN n rs) (h : GS rs s) (h32 : rs.length < 32) (hd : R.Nodup) (hR : ∀ x ∈ R, x < n) : F_free_ahead [netD n rs, nL s, nL R] = .ok (nL (fa rs s R)) := by
  show runM (q_free_ahead (netD n rs) (nL s) (nL R)) = _
  unfold q_free_ahead
  have hb := flat_len (rs := rs) (s := s) R
  have hb2 := nbs_sum hd rs
  have all : ∀ (T acc : List Nat), (∀ x ∈ T, x < n) → acc.length + (T.flatMap (zn rs s)).length ≤ 1000 → (forG (l_free_ahead_0 (netD n rs) (nL s) (nL R)) (T.map encN) (nL acc) : Mx Unit (Oc D Empty)) = Kr.pv (.nx (nL (acc ++ T.flatMap (zn rs s)))) := fun T => by
    induction T with
    | nil => intro acc _ _; simp
    | cons x T ih =>
      intro acc hT hl
      rw [List.flatMap_cons, List.length_append] at hl
      have c := comp_zn g h (hT x List.mem_cons_self)
      have b : binop .add (nL acc) (nL (zn rs s x)) = some (1, nL (acc ++ zn rs s x)) := by
        rw [bin_ll (by rw [List.length_map, List.length_map]; exact sz (by omega))]
        show _ = some (1, PyData.list (List.map encN (acc ++ zn rs s x)))
        rw [List.map_append]
      have e : l_free_ahead_0 (netD n rs) (nL s) (nL R) (encN x) (nL acc) = Kr.pv (.nx (nL (acc ++ zn rs s x))) := by
        unfold l_free_ahead_0
        show bd (opM 0 .add (Kr.pv (nL acc)) (compM (seqI (callM F_neighbours_of [Kr.pv (netD n rs), Kr.pv (.int (x : Nat))])) _)) _ = _
        rw [call2, f_nbs g, lf_ok, seqI_l]
        rw [show (compM (Kr.pv ((nbs rs x).map encN)) (fun r3 => keepM (cmpM .eq (callM F_keys_in [Kr.pv (netD n rs), Kr.pv (nL s), Kr.pv (encN x), Kr.pv r3]) (Kr.pv (.int 0))) (Kr.pv r3)) : Mx Unit D) = Kr.pv (nL (zn rs s x)) from c]
        rw [opM_pv, b, dep_ok (show 0 ≤ 1 by omega), oM_sm, bd_pv_, nxM_]
      rw [List.map_cons, forG_cons, e, bd_pv_, List.flatMap_cons, ← List.append_assoc]
      exact ih _ (fun y hy => hT y (List.mem_cons_of_mem _ hy)) (by rw [List.length_append]; omega)
  have e := all R [] hR (by rw [List.length_nil]; omega)
  rw [lst0, bd_pv_, seqI_l, forM_]
  show runM (sqO (forG (l_free_ahead_0 (netD n rs) (nL s) (nL R)) (R.map encN) (nL [])) _) = _
  rw [e, sqO_n, List.nil_append, b1M_pv, sset_nat (by omega), dep_ok (show 0 ≤ 1 by omega), oM_sm, rtM_, runM_r]
  rfl
theorem mem_fa {rs : List Road} {s R : List Nat} (h : GS rs s) {v : Nat} : v ∈ fa rs s R ↔ ∃ u ∈ R, kw rs s u v = some 0 := by
  unfold fa
  rw [mem_usN, List.mem_flatMap]
  constructor
  · rintro ⟨u, hu, hv⟩; exact ⟨u, hu, (mem_zn h).mp hv⟩
  · rintro ⟨u, hu, hv⟩; exact ⟨u, hu, (mem_zn h).mpr hv⟩
end Kz

set_option Elab.async false
set_option linter.all false
set_option maxRecDepth 100000
set_option maxHeartbeats 1000000
namespace Kz
open PySem PySem.Spec PyProof.Rows L2 Kr Kt
/-! ### stuck houses -/
def rst (rs : List Road) (s R : List Nat) : List Nat := R ++ (fa rs s R).filter fun x => !decide (x ∈ R)
theorem add_nL {a b : List Nat} (h : a.length + b.length ≤ 100000) : binop .add (nL a) (nL b) = some (1, nL (a ++ b)) := by
  rw [bin_ll (by rw [List.length_map, List.length_map]; exact sz h)]
  show _ = some (1, PyData.list (List.map encN (a ++ b)))
  rw [List.map_append]
theorem fa_lt {n : Nat} {rs : List Road} {s R : List Nat} (g : GN n rs) (h : GS rs s) : ∀ x ∈ fa rs s R, x < n := fun x hx => by
  obtain ⟨u, _, e⟩ := (mem_fa h).mp hx
  exact (kw_lt g h _ _ _ e).2
theorem rst_ok {n : Nat} {rs : List Road} {s R : List Nat} (g : GN n rs) (h : GS rs s) (hd : R.Nodup) (hR : ∀ x ∈ R, x < n) : (rst rs s R).Nodup ∧ ∀ x ∈ rst rs s R, x < n := by
  unfold rst
  refine ⟨?_, fun x hx => ?_⟩
  · rw [List.nodup_append]
    refine ⟨hd, (srt_nodup usN_srt).filter _, fun a ha b hb e => ?_⟩
    subst e
    have := (List.mem_filter.mp hb).2
    simp [ha] at this
  · rcases List.mem_append.mp hx with hx | hx
    · exact hR x hx
    · exact fa_lt g h x (List.mem_filter.mp hx).1
theorem stk_in {n : Nat} {rs : List Road} {s R : List Nat} (g : GN n rs) (h : GS rs s) (h32 : rs.length < 32) (F hs x t : D) (hd : R.Nodup) (hR : ∀ x ∈ R, x < n) : l_stuck_houses_0 (netD n rs) (nL s) F hs x t (nL R) = Kr.pv (.nx (nL (rst rs s R))) := by
  have l1 := nodup_short n R hd hR
  have l2 := nodup_short n (fa rs s R) (srt_nodup usN_srt) (fa_lt g h)
  have l3 := List.length_filter_le (fun x => !decide (x ∈ R)) (fa rs s R)
  have ht := g.top
  unfold l_stuck_houses_0
  rw [call3, f_fa g h h32 hd hR, lf_ok, seqI_l, compM_filter (T := Nat) (enc := encN) (fun x => !decide (x ∈ R)) encN (fun v hv => ?_) (sz (by omega))]
  · show bd (opM 0 .add (Kr.pv (nL R)) (Kr.pv (nL ((fa rs s R).filter fun x => !decide (x ∈ R))))) _ = _
    rw [opM_pv, add_nL (by omega), dep_ok (show 0 ≤ 1 by omega), oM_sm, bd_pv_, nxM_]
    rfl
  · rw [cmpM_pv]
    show keepM (bd (oM (cmpop .notin (.int (v : Nat)) (nL R))) _) _ = _
    rw [c_notinN, oM_sm, bd_pv_, keepM_b]
def rseq (rs : List Road) (s : List Nat) (x : Nat) : Nat → List Nat
  | 0 => zn rs s x
  | t + 1 => rst rs s (rseq rs s x t)
theorem fold_rseq {rs : List Road} {s : List Nat} {x : Nat} : ∀ (t j k : Nat), (List.range' k t).foldl (fun R _ => rst rs s R) (rseq rs s x j) = rseq rs s x (j + t)
  | 0, j, k => rfl
  | t + 1, j, k => by
    rw [List.range'_succ, List.foldl_cons, show j + (t + 1) = j + 1 + t by omega]
    exact fold_rseq t (j + 1) (k + 1)
theorem zn_ok {n : Nat} {rs : List Road} {s : List Nat} (g : GN n rs) (h : GS rs s) (x : Nat) : (zn rs s x).Nodup ∧ ∀ y ∈ zn rs s x, y < n :=
  ⟨(srt_nodup (nbs_srt g x)).filter _, fun y hy => (kw_lt g h _ _ _ ((mem_zn h).mp hy)).2⟩
/-- the houses that have a road -/
def hou (rs : List Road) : List Nat := usN (rs.map (·.lo) ++ rs.map (·.hi))
theorem mem_hou {rs : List Road} {v : Nat} : v ∈ hou rs ↔ ∃ u, Joins rs u v := by
  unfold hou
  rw [mem_usN, List.mem_append, List.mem_map, List.mem_map]
  constructor
  · rintro (⟨r, hr, rfl⟩ | ⟨r, hr, rfl⟩)
    · exact ⟨r.hi, r, hr, .inr ⟨rfl, rfl⟩⟩
    · exact ⟨r.lo, r, hr, .inl ⟨rfl, rfl⟩⟩
  · rintro ⟨u, r, hr, h | h⟩
    · exact .inr ⟨r, hr, h.2⟩
    · exact .inl ⟨r, hr, h.1⟩
theorem hou_lt {n : Nat} {rs : List Road} (g : GN n rs) : ∀ x ∈ hou rs, x < n := fun x hx => by
  obtain ⟨u, hj⟩ := mem_hou.mp hx
  exact (hj.lt g).2.1
theorem rseq_zr {rs : List Road} {s : List Nat} (h : GS rs s) (x : Nat) : x ∈ rseq rs s x (hou rs).length ↔ Zr (kw rs s) x := by
  refine clo (w := kw rs s) (R := rseq rs s x) (hs := hou rs) (fun v => mem_zn h) (fun t v => ?_) (fun u v c e => mem_hou.mpr ⟨u, (kw_some h.len).mp ⟨c, e⟩⟩) (Nat.le_refl _)
  show v ∈ rst rs s (rseq rs s x t) ↔ _
  unfold rst
  rw [List.mem_append, List.mem_filter, mem_fa h]
  constructor
  · rintro (q | ⟨q, _⟩)
    · exact .inl q
    · exact .inr q
  · rintro (q | q)
    · exact .inl q
    · by_cases m : v ∈ rseq rs s x t
      · exact .inl m
      · exact .inr ⟨q, by simp [m]⟩
theorem stk_one {n : Nat} {rs : List Road} {s F : List Nat} (g : GN n rs) (h : GS rs s) (h32 : rs.length < 32) {x : Nat} (hx : x < n) (hF : F.length ≤ 1000) : l_stuck_houses_1 (netD n rs) (nL s) (nL (hou rs)) (encN x) (nL F) = Kr.pv (.nx (nL (if decide (x ∈ rseq rs s x (hou rs).length) = true then F ++ [x] else F))) := by
  have ht := g.top
  have hh := nodup_short n (hou rs) (srt_nodup usN_srt) (hou_lt g)
  unfold l_stuck_houses_1
  have c := comp_zn g h hx
  show bd (compM (seqI (callM F_neighbours_of [Kr.pv (netD n rs), Kr.pv (.int (x : Nat))])) _) _ = _
  rw [call2, f_nbs g, lf_ok, seqI_l]
  rw [show (compM (Kr.pv ((nbs rs x).map encN)) (fun r3 => keepM (cmpM .eq (callM F_keys_in [Kr.pv (netD n rs), Kr.pv (nL s), Kr.pv (encN x), Kr.pv r3]) (Kr.pv (.int 0))) (Kr.pv r3)) : Mx Unit D) = Kr.pv (nL (zn rs s x)) from c]
  have r1 : (rg1 (b1M 0 .len (Kr.pv (nL (hou rs)))) : Mx Unit (List D)) = Kr.pv (rangeD 0 (hou rs).length) := by
    rw [b1M_pv, b1_lenl, List.length_map, dep_00, oM_sm, rg1_pv (by omega)]; simp
  rw [bd_pv_, r1, forM_, range_map]
  obtain ⟨e, _⟩ := forG_foldE (σ := Unit) (γ := D) (f := l_stuck_houses_0 (netD n rs) (nL s) (nL F) (nL (hou rs)) (encN x)) (enc := fun k : Nat => PyData.int ((0 : Int) + (k : Nat))) (encS := fun R : List Nat => nL R) (fun R => R.Nodup ∧ ∀ y ∈ R, y < n) (fun R _ => rst rs s R) (List.range' 0 (hou rs).length) (zn rs s x) (fun k hk R hR => ⟨stk_in g h h32 _ _ _ _ hR.1 hR.2, rst_ok g h hR.1 hR.2⟩) (zn_ok g h x)
  rw [e, sqO_n]
  have fr := fold_rseq (rs := rs) (s := s) (x := x) (hou rs).length 0 0
  rw [show rseq rs s x 0 = zn rs s x from rfl, Nat.zero_add] at fr
  rw [fr, cmpM_pv]
  show iteM (tsM (bd (oM (cmpop .isin (.int (x : Nat)) (nL (rseq rs s x (hou rs).length)))) _)) _ _ = _
  rw [c_isinN, oM_sm, bd_pv_, tsM_b]
  by_cases q : x ∈ rseq rs s x (hou rs).length
  · rw [decide_eq_true q, iteM_t, if_pos rfl, appM_l (by rw [List.length_map]; exact Nat.lt_of_le_of_lt hF (by rw [sizeLine_eq]; omega)), nxM_]
    show _ = Kr.pv (Oc.nx (PyData.list (List.map encN (F ++ [x]))))
    rw [List.map_append]
    rfl
  · rw [decide_eq_false q, iteM_f, if_neg Bool.false_ne_true, nxM_]
theorem fold_filter {α : Type} (p : α → Bool) : ∀ (l acc : List α), l.foldl (fun F x => if p x = true then F ++ [x] else F) acc = acc ++ l.filter p
  | [], acc => by simp
  | x :: l, acc => by
    rw [List.foldl_cons, fold_filter p l, List.filter_cons]
    split <;> simp
/-- the stuck houses, as the program lists them -/
def stkP (rs : List Road) (s : List Nat) : List Nat := (hou rs).filter fun x => decide (x ∈ rseq rs s x (hou rs).length)
theorem mem_stkP {rs : List Road} {s : List Nat} (h : GS rs s) {x : Nat} : x ∈ stkP rs s ↔ Zr (kw rs s) x := by
  unfold stkP
  rw [List.mem_filter, decide_eq_true_eq, rseq_zr h]
  constructor
  · exact fun z => z.2
  · intro z
    refine ⟨?_, z⟩
    obtain ⟨u, _, e⟩ := z
    exact mem_hou.mpr ⟨u, (kw_some h.len).mp ⟨0, e⟩⟩
theorem f_stuck {n : Nat} {rs : List Road} {s : List Nat} (g : GN n rs) (h : GS rs s) (h32 : rs.length < 32) : F_stuck_houses [netD n rs, nL s] = .ok (nL (stkP rs s)) := by
  show runM (q_stuck_houses (netD n rs) (nL s)) = _
  unfold q_stuck_houses
  have ht := g.top
  have hh := nodup_short n (hou rs) (srt_nodup usN_srt) (hou_lt g)
  have c1 : (compM (Kr.pv (rs.map encR)) (fun r1 => un3 r1 fun vlow vhigh vmany => allM (Kr.pv vlow)) : Mx Unit D) = Kr.pv (.list (rs.map fun r => encN r.lo)) := compM_map _ (fun r hr => rfl) (sz (by omega))
  have c2 : (compM (Kr.pv (rs.map encR)) (fun r1 => un3 r1 fun vlow vhigh vmany => allM (Kr.pv vhigh)) : Mx Unit D) = Kr.pv (.list (rs.map fun r => encN r.hi)) := compM_map _ (fun r hr => rfl) (sz (by omega))
  have ba : binop .add (.list (rs.map fun r => encN r.lo)) (.list (rs.map fun r => encN r.hi)) = some (1, nL (rs.map (·.lo) ++ rs.map (·.hi))) := by
    rw [bin_ll (by rw [List.length_map, List.length_map]; exact sz (by omega))]
    show _ = some (1, PyData.list (List.map encN (_ ++ _)))
    rw [List.map_append, List.map_map, List.map_map]
    rfl
  rw [lst0, bd_pv_, ixM_pv, gt2_1, oM_sm, seqI_l, c1, c2, opM_pv, ba, dep_ok (show 0 ≤ 1 by omega), oM_sm, b1M_pv, sset_nat (by simp; omega), dep_ok (show 0 ≤ 1 by omega), oM_sm, bd_pv_, seqI_l, forM_]
  obtain ⟨e, _⟩ := forG_foldE (σ := Unit) (γ := Empty) (f := l_stuck_houses_1 (netD n rs) (nL s) (nL (hou rs))) (enc := encN) (encS := fun F : List Nat => nL F) (fun F => F.length ≤ 1000) (fun F x => if decide (x ∈ rseq rs s x (hou rs).length) = true then F ++ [x] else F) [] [] (fun k hk => by cases hk) (by simp)
  clear e
  have all : ∀ (T F : List Nat), (∀ x ∈ T, x < n) → F.length + T.length ≤ 1000 → (forG (l_stuck_houses_1 (netD n rs) (nL s) (nL (hou rs))) (T.map encN) (nL F) : Mx Unit (Oc D Empty)) = Kr.pv (.nx (nL (T.foldl (fun F x => if decide (x ∈ rseq rs s x (hou rs).length) = true then F ++ [x] else F) F))) := fun T => by
    induction T with
    | nil => intro F _ _; rfl
    | cons x T ih =>
      intro F hT hl
      rw [List.length_cons] at hl
      rw [List.map_cons, forG_cons, stk_one g h h32 (hT x List.mem_cons_self) (by omega), bd_pv_, List.foldl_cons]
      refine ih _ (fun y hy => hT y (List.mem_cons_of_mem _ hy)) ?_
      split
      · rw [List.length_append, List.length_singleton]; omega
      · omega
  have e := all (hou rs) [] (hou_lt g) (by simp; omega)
  show runM (sqO (forG (l_stuck_houses_1 (netD n rs) (nL s) (nL (hou rs))) ((hou rs).map encN) (nL [])) _) = _
  rw [e, sqO_n, rtM_, runM_r, fold_filter]
  rfl
end Kz

set_option Elab.async false
set_option linter.all false
set_option maxRecDepth 100000
set_option maxHeartbeats 1000000
namespace Kz
open PySem PySem.Spec PyProof.Rows L2 Kr Kt
/-! ### stuck houses, by the law; ends and counts -/
def lst_ (S : List (Nat × Nat)) (R : List Nat) : List Nat := R ++ (S.filter fun p => decide (p.1 ∈ R) && !decide (p.2 ∈ R)).map (·.2)
def lsq (S : List (Nat × Nat)) (x : Nat) : Nat → List Nat
  | 0 => (S.filter fun p => decide (p.1 = x)).map (·.2)
  | t + 1 => lst_ S (lsq S x t)
theorem lst_len {S : List (Nat × Nat)} {R : List Nat} : (lst_ S R).length ≤ R.length + S.length := by
  unfold lst_
  have := List.length_filter_le (fun p : Nat × Nat => decide (p.1 ∈ R) && !decide (p.2 ∈ R)) S
  rw [List.length_append, List.length_map]; omega
theorem fold_lsq {S : List (Nat × Nat)} {x : Nat} : ∀ (t j k : Nat), (List.range' k t).foldl (fun R _ => lst_ S R) (lsq S x j) = lsq S x (j + t)
  | 0, j, k => rfl
  | t + 1, j, k => by
    rw [List.range'_succ, List.foldl_cons, show j + (t + 1) = j + 1 + t by omega]
    exact fold_lsq t (j + 1) (k + 1)
theorem lsq_zr {n : Nat} {rs : List Road} {s : List Nat} (g : GN n rs) (h : GS rs s) {S : List (Nat × Nat)} (hS : ∀ u v, (u, v) ∈ S ↔ kw rs s u v = some 0) (x : Nat) : x ∈ lsq S x n ↔ Zr (kw rs s) x := by
  refine clo (w := kw rs s) (R := lsq S x) (hs := List.range n) (fun v => ?_) (fun t v => ?_) (fun u v c e => List.mem_range.mpr (kw_lt g h u v c e).2) (by simp)
  · show v ∈ (S.filter fun p => decide (p.1 = x)).map (·.2) ↔ _
    rw [List.mem_map]
    constructor
    · rintro ⟨⟨a, b⟩, hp, rfl⟩
      obtain ⟨h1, h2⟩ := List.mem_filter.mp hp
      have := of_decide_eq_true h2
      simp only at this
      subst this
      exact (hS _ _).mp h1
    · intro e
      exact ⟨(x, v), List.mem_filter.mpr ⟨(hS _ _).mpr e, by simp⟩, rfl⟩
  · show v ∈ lst_ S (lsq S x t) ↔ _
    unfold lst_
    rw [List.mem_append, List.mem_map]
    constructor
    · rintro (q | ⟨⟨a, b⟩, hp, rfl⟩)
      · exact .inl q
      · obtain ⟨h1, h2⟩ := List.mem_filter.mp hp
        simp only [Bool.and_eq_true, decide_eq_true_eq] at h2
        exact .inr ⟨a, h2.1, (hS _ _).mp h1⟩
    · rintro (q | ⟨u, hu, e⟩)
      · exact .inl q
      · by_cases m : v ∈ lsq S x t
        · exact .inl m
        · exact .inr ⟨(u, v), List.mem_filter.mpr ⟨(hS _ _).mpr e, by simp [hu, m]⟩, rfl⟩
end Kz

set_option Elab.async false
set_option linter.all false
set_option maxRecDepth 100000
set_option maxHeartbeats 1000000
namespace Kz
open PySem PySem.Spec PyProof.Rows L2 Kr Kt
/-! ### ends and counts -/
theorem srt_ext : ∀ {a b : List Nat}, a.Pairwise (· < ·) → b.Pairwise (· < ·) → (∀ x, x ∈ a ↔ x ∈ b) → a = b
  | [], [], _, _, _ => rfl
  | [], y :: b, _, _, h => absurd ((h y).mpr List.mem_cons_self) (by simp)
  | x :: a, [], _, _, h => absurd ((h x).mp List.mem_cons_self) (by simp)
  | x :: a, y :: b, ha, hb, h => by
    have ha' := List.pairwise_cons.mp ha
    have hb' := List.pairwise_cons.mp hb
    have e : x = y := by
      rcases List.mem_cons.mp ((h x).mp List.mem_cons_self) with q | q
      · exact q
      · rcases List.mem_cons.mp ((h y).mpr List.mem_cons_self) with q2 | q2
        · exact q2.symm
        · have := hb'.1 x q
          have := ha'.1 y q2
          omega
    subst e
    congr 1
    refine srt_ext ha'.2 hb'.2 fun z => ⟨fun hz => ?_, fun hz => ?_⟩
    · rcases List.mem_cons.mp ((h z).mp (List.mem_cons_of_mem _ hz)) with q | q
      · have := ha'.1 z hz; omega
      · exact q
    · rcases List.mem_cons.mp ((h z).mpr (List.mem_cons_of_mem _ hz)) with q | q
      · have := hb'.1 z hz; omega
      · exact q
def ends (rs : List Road) (s R : List Nat) : List Nat := usN (R ++ stkP rs s)
theorem mem_ends {rs : List Road} {s R : List Nat} (h : GS rs s) {x : Nat} : x ∈ ends rs s R ↔ x ∈ R ∨ Zr (kw rs s) x := by
  unfold ends
  rw [mem_usN, List.mem_append, mem_stkP h]
theorem ends_lt {n : Nat} {rs : List Road} {s R : List Nat} (g : GN n rs) (h : GS rs s) (gh : GH n R) : ∀ x ∈ ends rs s R, x < n := fun x hx => by
  rcases (mem_ends h).mp hx with q | q
  · exact gh.lt x q
  · exact q.lt (kw_lt g h)
theorem stkP_len {n : Nat} {rs : List Road} {s : List Nat} (g : GN n rs) : (stkP rs s).length ≤ 12 := by
  have h1 := nodup_short n (hou rs) (srt_nodup usN_srt) (hou_lt g)
  have h2 := List.length_filter_le (fun x => decide (x ∈ rseq rs s x (hou rs).length)) (hou rs)
  have := g.top
  unfold stkP
  omega
def cnts (n : Nat) (rs : List Road) (s R : List Nat) : List (Option Nat) := lens n rs s (ends rs s R)
theorem cnts_len {n : Nat} {rs : List Road} {s R : List Nat} : (cnts n rs s R).length = n := by
  unfold cnts lens
  rw [turns_len]; simp [Kt.start]
theorem cnts_d {n : Nat} {rs : List Road} {s R : List Nat} (g : GN n rs) (h : GS rs s) (gh : GH n R) (v : Nat) : IsD (fun x => x ∈ R ∨ Zr (kw rs s) x) (kw rs s) v (at_ (cnts n rs s R) v) := by
  have := lengths_ok (w := kw rs s) (S := fun x => decide (x ∈ ends rs s R)) (n := n) (t := n) (fun x hx => ends_lt g h gh x (of_decide_eq_true hx)) (mem_ds h) (kw_lt g h) (Nat.le_refl n) v
  have e : (fun x => decide (x ∈ ends rs s R) = true) = fun x => x ∈ R ∨ Zr (kw rs s) x := by
    funext x
    rw [decide_eq_true_eq, mem_ends h]
  rw [e] at this
  exact this
/-! ### told by the neighbours -/
theorem c_eq_nL (l : List Nat) : cmpop .eq (nL l) (.list []) = some l.isEmpty := by
  show (if SeqAt.shaped (nL l) && SeqAt.shaped (nL []) then some (PyData.eqv (nL l) (nL [])) else none) = _
  rw [shaped_nL, shaped_nL]
  cases l <;> rfl
theorem c_ne_nL (l : List Nat) : cmpop .ne (nL l) (.list []) = some (!l.isEmpty) := by
  show (if SeqAt.shaped (nL l) && SeqAt.shaped (nL []) then some (!PyData.eqv (nL l) (nL [])) else none) = _
  rw [shaped_nL, shaped_nL]
  cases l <;> rfl
def key (rs : List Road) (s : List Nat) (u h : Nat) : Nat := (kw rs s u h).getD 0
def badN (rs : List Road) (s : List Nat) (f : List (Option Nat)) (h a u : Nat) : Bool := match at_ f u with
  | none => true
  | some b => decide (b + key rs s u h < a)
def goodN (rs : List Road) (s : List Nat) (f : List (Option Nat)) (h a u : Nat) : Bool := match at_ f u with
  | none => false
  | some b => decide (a = b + key rs s u h)
def tld (rs : List Road) (s E : List Nat) (f : List (Option Nat)) (h : Nat) : Bool :=
  if decide (h ∈ E) = true then decide (at_ f h = some 0) else match at_ f h with
    | none => ((nbs rs h).filter fun u => (at_ f u).isSome).isEmpty
    | some a => ((nbs rs h).filter (badN rs s f h a)).isEmpty && !((nbs rs h).filter (goodN rs s f h a)).isEmpty
end Kz

set_option Elab.async false
set_option linter.all false
set_option maxRecDepth 100000
set_option maxHeartbeats 1000000
namespace Kz
open PySem PySem.Spec PyProof.Rows L2 Kr
/-! ### texts of small data differ -/
def tx (d : D) : List Nat := d.shown.cps.toList
theorem str_ext {a b : Str} (h : a.cps.toList = b.cps.toList) : a = b := Str.ext' (Array.toList_inj.mp h)
theorem tx_eq {a b : D} : a.shown = b.shown ↔ tx a = tx b := ⟨fun h => by unfold tx; rw [h], str_ext⟩
theorem map_inj {α β : Type} {f : α → β} (hf : ∀ a b, f a = f b → a = b) : ∀ {l m : List α}, l.map f = m.map f → l = m
  | [], [], _ => rfl
  | [], _ :: _, h => by cases h
  | _ :: _, [], h => by cases h
  | a :: l, b :: m, h => by
    rw [List.map_cons, List.map_cons, List.cons.injEq] at h
    rw [hf _ _ h.1, map_inj hf h.2]
theorem char_inj (a b : Char) (h : a.toNat = b.toNat) : a = b := Char.ext (UInt32.toNat_inj.mp h)
theorem tx_nat (m : Nat) : tx (.int (m : Nat)) = (Nat.toDigits 10 m).map Char.toNat := by
  unfold tx
  rw [PyData.shown_int]
  have := signs_ofString (toString ((m : Nat) : Int))
  refine this.trans ?_
  show (Nat.repr m).toList.map Char.toNat = _
  rw [Nat.repr]
  simp
theorem tx_neg (m : Nat) : ∃ r, tx (.int (Int.negSucc m)) = 45 :: r := by
  unfold tx
  rw [PyData.shown_int]
  have := signs_ofString (toString (Int.negSucc m))
  refine ⟨(Nat.repr (m + 1)).toList.map Char.toNat, this.trans ?_⟩
  show (("-" ++ Nat.repr (m + 1) : String)).toList.map Char.toNat = _
  rw [String.toList_append, List.map_append]
  rfl
theorem tx_nat_hd (m : Nat) : ∃ c r, tx (.int (m : Nat)) = c :: r ∧ 48 ≤ c ∧ c ≤ 57 := by
  have h : ∀ c ∈ tx (.int (m : Nat)), 48 ≤ c ∧ c ≤ 57 := fun c hc => by
    rw [tx_nat] at hc
    obtain ⟨ch, hh, rfl⟩ := List.mem_map.mp hc
    exact digit_range (Nat.isDigit_of_mem_toDigits (by decide) (by decide) hh)
  have hl : 1 ≤ (tx (.int (m : Nat))).length := by rw [tx_nat, List.length_map]; exact toDigits_len_ge 10 m
  cases q : tx (.int (m : Nat)) with
  | nil => rw [q] at hl; simp at hl
  | cons c r => exact ⟨c, r, rfl, by rw [q] at h; exact h c List.mem_cons_self⟩
theorem tx_int_inj {i : Int} {m : Nat} (h : tx (.int i) = tx (.int (m : Nat))) : i = m := by
  cases i with
  | ofNat k =>
    have := (tx_nat k).symm.trans (h.trans (tx_nat m))
    have := map_inj char_inj this
    have e := congrArg (fun l => Nat.ofDigitChars 10 l 0) this
    simp only [Nat.ofDigitChars_toDigits (b := 10) (by decide) (by decide)] at e
    rw [e]; rfl
  | negSucc k =>
    obtain ⟨r, e⟩ := tx_neg k
    obtain ⟨c, r', e', h1, h2⟩ := tx_nat_hd m
    rw [e, e'] at h
    injection h with h _
    omega
theorem tx_none : tx .none = [78, 111, 110, 101] := by unfold tx; rw [PyData.shown_none]; exact signs_None
theorem tx_true : tx (.bool true) = [84, 114, 117, 101] := by unfold tx; rw [PyData.shown]; exact signs_True
theorem tx_lstL (xs : List D) : tx (.list xs) = 91 :: ((Str.join ", " (PyData.shownAll xs)).cps.toList ++ [93]) := by
  unfold tx
  rw [PyData.shown, listText_eq_join, cps_toList_append, cps_toList_append, signs_lbrack, signs_rbrack]
  rfl
theorem tx_tup (xs : List D) : ∃ r, tx (.tuple xs) = 40 :: r := by
  unfold tx
  rw [PyData.shown, tupleText, cps_toList_append, cps_toList_append, signs_lparen]
  exact ⟨_, rfl⟩
/-- joined texts -/
def jn : List (List Nat) → List Nat
  | [] => []
  | [x] => x
  | x :: y :: r => x ++ 44 :: 32 :: jn (y :: r)
theorem jn_0 : jn [] = [] := rfl
theorem jn_1 (x : List Nat) : jn [x] = x := rfl
theorem jn_2 (x y : List Nat) (r : List (List Nat)) : jn (x :: y :: r) = x ++ 44 :: 32 :: jn (y :: r) := rfl
theorem jn_eq : ∀ xs : List D, (Str.join ", " (PyData.shownAll xs)).cps.toList = jn (xs.map tx)
  | [] => rfl
  | [x] => by rw [PyData.shownAll, PyData.shownAll, join_one]; rfl
  | x :: y :: r => by
    have ih := jn_eq (y :: r)
    rw [PyData.shownAll, PyData.shownAll, join_cons_cons, cps_toList_append, cps_toList_append, signs_sep]
    rw [PyData.shownAll] at ih
    rw [ih, List.append_assoc]
    rfl
theorem tx_lst (xs : List D) : tx (.list xs) = 91 :: (jn (xs.map tx) ++ [93]) := by rw [tx_lstL, jn_eq]
theorem split_comma : ∀ {a b r t : List Nat}, 44 ∉ a → 44 ∉ b → a ++ 44 :: r = b ++ 44 :: t → a = b ∧ r = t
  | [], [], r, t, _, _, h => by
    injection h with _ h
    exact ⟨rfl, h⟩
  | [], y :: b, r, t, _, hb, h => by
    injection h with h _
    exact absurd (h ▸ List.mem_cons_self) hb
  | x :: a, [], r, t, ha, _, h => by
    injection h with h _
    exact absurd (h ▸ List.mem_cons_self) ha
  | x :: a, y :: b, r, t, ha, hb, h => by
    injection h with h1 h2
    obtain ⟨e1, e2⟩ := split_comma (fun z => ha (List.mem_cons_of_mem _ z)) (fun z => hb (List.mem_cons_of_mem _ z)) h2
    exact ⟨by rw [h1, e1], e2⟩
theorem jn_inj : ∀ {a b : List (List Nat)}, (∀ x ∈ a, 44 ∉ x ∧ x ≠ []) → (∀ x ∈ b, 44 ∉ x ∧ x ≠ []) → jn a = jn b → a = b
  | [], [], _, _, _ => rfl
  | [], [y], _, hb, h => absurd h.symm (hb y List.mem_cons_self).2
  | [], y :: z :: r, _, _, h => by rw [jn_0, jn_2] at h; simp at h
  | [x], [], ha, _, h => absurd h (ha x List.mem_cons_self).2
  | x :: z :: r, [], _, _, h => by rw [jn_0, jn_2] at h; simp at h
  | [x], [y], _, _, h => by rw [jn_1, jn_1] at h; rw [h]
  | [x], y :: z :: r, ha, _, h => by
    rw [jn_1, jn_2] at h
    exact absurd (by rw [h]; simp) (ha x List.mem_cons_self).1
  | x :: z :: r, [y], _, hb, h => by
    rw [jn_1, jn_2] at h
    exact absurd (by rw [← h]; simp) (hb y List.mem_cons_self).1
  | x :: z :: r, y :: w :: t, ha, hb, h => by
    rw [jn_2, jn_2] at h
    obtain ⟨e1, e2⟩ := split_comma (ha x List.mem_cons_self).1 (hb y List.mem_cons_self).1 h
    injection e2 with _ e2
    rw [e1, jn_inj (fun q hq => ha q (List.mem_cons_of_mem _ hq)) (fun q hq => hb q (List.mem_cons_of_mem _ hq)) e2]
/-- the items that are bent into counts -/
inductive Itm : D → Prop
  | none : Itm .none
  | int (i : Int) : Itm (.int i)
  | tru : Itm (.bool true)
  | s0 : Itm (.str "0")
  | l0 : Itm (.list [.int 0])
theorem tx_s0 : tx (.str "0") = [39, 48, 39] := by decide +kernel
theorem tx_l0 : tx (.list [.int 0]) = [91, 48, 93] := by decide +kernel
theorem Itm.free {x : D} (h : Itm x) : 44 ∉ tx x ∧ tx x ≠ [] := by
  cases h with
  | none => rw [tx_none]; decide
  | int i =>
    refine ⟨shown_int_free (by decide) i, ?_⟩
    cases i with
    | ofNat m => obtain ⟨c, r, e, _⟩ := tx_nat_hd m; exact fun z => by rw [show tx (.int (Int.ofNat m)) = c :: r from e] at z; cases z
    | negSucc m => obtain ⟨r, e⟩ := tx_neg m; rw [e]; exact List.cons_ne_nil _ _
  | tru => rw [tx_true]; decide
  | s0 => rw [tx_s0]; decide
  | l0 => rw [tx_l0]; decide
theorem Itm.inj {x : D} (h : Itm x) {m : Nat} (e : tx x = tx (.int (m : Nat))) : x = .int (m : Nat) := by
  obtain ⟨c, r, e', h1, h2⟩ := tx_nat_hd m
  cases h with
  | none => rw [e', tx_none] at e; injection e with e; omega
  | int i => rw [tx_int_inj e]
  | tru => rw [e', tx_true] at e; injection e with e; omega
  | s0 => rw [e', tx_s0] at e; injection e with e; omega
  | l0 => rw [e', tx_l0] at e; injection e with e; omega
theorem Itm.injn {x : D} (h : Itm x) (e : tx x = tx .none) : x = .none := by
  rw [tx_none] at e
  cases h with
  | none => rfl
  | int i =>
    cases i with
    | ofNat m => obtain ⟨c, r, e', h1, h2⟩ := tx_nat_hd m; rw [show tx (.int (Int.ofNat m)) = c :: r from e'] at e; injection e with e; omega
    | negSucc m => obtain ⟨r, e'⟩ := tx_neg m; rw [e'] at e; injection e with e; omega
  | tru => rw [tx_true] at e; injection e with e; omega
  | s0 => rw [tx_s0] at e; injection e with e; omega
  | l0 => rw [tx_l0] at e; injection e with e; omega
end Kz

set_option Elab.async false
set_option linter.all false
set_option maxRecDepth 100000
set_option maxHeartbeats 1000000
namespace Kz
open PySem PySem.Spec PyProof.Rows L2 Kr Kt
theorem Wl.le {S : Nat → Prop} {w : W} {K : Nat} (hK : ∀ u v c, w u v = some c → c ≤ K) : ∀ {p : List Nat} {l : Nat}, Wl S w p l → l ≤ K * p.length := fun {p l} r => by
  induction r with
  | base e => omega
  | step r e ih =>
    have := hK _ _ _ e
    rw [List.length_cons, Nat.mul_add]
    omega
theorem kw_le {rs : List Road} {s : List Nat} (h : GS rs s) (ho : ∀ r ∈ rs, r.lo < r.hi) {K : Nat} (hK : ∀ r ∈ rs, r.many ≤ K) : ∀ u v c, kw rs s u v = some c → c ≤ K := fun u v c e => by
  obtain ⟨i, r, x, _, h2, h3, h4⟩ := kw_idx rs s u v h.len ho c e
  have hr : r ∈ rs := List.mem_of_getElem? h2
  have := hK r hr
  have hz : (x, r) ∈ s.zip rs := List.mem_of_getElem? (i := i) (by rw [List.getElem?_zip_eq_some]; exact ⟨h3, h2⟩)
  have := h.ok _ hz
  simp only at this
  rcases h4 with ⟨_, h4⟩ | ⟨_, h4⟩ <;> omega
theorem cnts_le {n : Nat} {rs : List Road} {s R : List Nat} (g : GN n rs) (h : GS rs s) (gh : GH n R) (ho : ∀ r ∈ rs, r.lo < r.hi) {K : Nat} (hK : ∀ r ∈ rs, r.many ≤ K) {v a : Nat} (e : at_ (cnts n rs s R) v = some a) : a ≤ K * n := by
  have d := cnts_d g h gh v
  rw [e] at d
  obtain ⟨⟨p, hp⟩, mn⟩ := d
  obtain ⟨q, l', h1, h2, h3⟩ := hp.short
  have := mn q l' h1
  have hl := Wl.le (kw_le h ho hK) h1
  have ll := nodup_short n _ h3 (h1.lt (fun x hx => ends_lt g h gh x ((mem_ends h).mpr hx)) (kw_lt g h))
  exact Nat.le_trans (Nat.le_trans this hl) (Nat.mul_le_mul_left _ ll)
theorem shaped_str {x : Str} (h : PyData.strOk x = true) : SeqAt.shaped (.str x) = true := by
  unfold SeqAt.shaped
  simp [PyData.canLay0, PyData.depth, h]
theorem c_eqSS {x y : Str} (hx : PyData.strOk x = true) (hy : PyData.strOk y = true) {b : Bool} (e : x = y ↔ b = true) : cmpop .eq (.str x) (.str y) = some b := by
  show (if SeqAt.shaped (.str x) && SeqAt.shaped (.str y) then some (PyData.eqv (.str x) (.str y)) else none) = _
  rw [shaped_str hx, shaped_str hy, PyData.eqv]
  show some (x == y) = some b
  congr 1
  rw [Bool.eq_iff_iff, beq_iff_eq, e]
theorem c_neSS {x y : Str} (hx : PyData.strOk x = true) (hy : PyData.strOk y = true) {b : Bool} (e : x = y ↔ b = true) : cmpop .ne (.str x) (.str y) = some (!b) := by
  show (if SeqAt.shaped (.str x) && SeqAt.shaped (.str y) then some (!PyData.eqv (.str x) (.str y)) else none) = _
  rw [shaped_str hx, shaped_str hy, PyData.eqv]
  show some (!(x == y)) = some (!b)
  congr 2
  rw [Bool.eq_iff_iff, beq_iff_eq, e]
theorem itm_f {f : List (Option Nat)} : ∀ x ∈ f.map oN, Itm x := fun x hx => by
  obtain ⟨o, _, rfl⟩ := List.mem_map.mp hx
  cases o with
  | none => exact .none
  | some a => exact .int _
theorem tx_map_inj : ∀ {xs : List D} {f : List (Option Nat)}, (∀ x ∈ xs, Itm x) → xs.map tx = (f.map oN).map tx → xs = f.map oN := fun {xs} => by
  induction xs with
  | nil => intro f _ e; cases f with
    | nil => rfl
    | cons => cases e
  | cons x xs ih => intro f hx e; cases f with
    | nil => cases e
    | cons o f =>
      rw [List.map_cons, List.map_cons, List.map_cons, List.cons.injEq] at e
      rw [List.map_cons, ih (fun y hy => hx y (List.mem_cons_of_mem _ hy)) e.2]
      congr 1
      cases o with
      | none => exact (hx x List.mem_cons_self).injn e.1
      | some a => exact (hx x List.mem_cons_self).inj e.1
theorem tx_f_inj {xs : List D} (hx : ∀ x ∈ xs, Itm x) {f : List (Option Nat)} (e : tx (.list xs) = tx (fD f)) : PyData.list xs = fD f := by
  rw [tx_lst, tx_lst] at e
  injection e with _ e
  have e := List.append_cancel_right e
  have e := jn_inj (fun t ht => by obtain ⟨x, hx', rfl⟩ := List.mem_map.mp ht; exact (hx x hx').free) (fun t ht => by obtain ⟨x, hx', rfl⟩ := List.mem_map.mp ht; exact (itm_f x hx').free) e
  rw [tx_map_inj hx e]
theorem itm_ok {n : Nat} {rs : List Road} {s R : List Nat} (g : GN n rs) (h : GS rs s) (gh : GH n R) : ∀ x ∈ (cnts n rs s R).map oN, ∃ o : Option Nat, x = oN o ∧ ∀ a, o = some a → a ≤ 120 := fun x hx => by
  obtain ⟨o, ho, rfl⟩ := List.mem_map.mp hx
  refine ⟨o, rfl, fun a e => ?_⟩
  subst e
  obtain ⟨i, hi, e⟩ := List.mem_iff_getElem.mp ho
  have : at_ (cnts n rs s R) i = some a := by
    unfold at_
    rw [List.getD_eq_getElem?_getD, List.getElem?_eq_getElem hi, e]; rfl
  have := cnts_le g h gh (fun r hr => (g.ok r hr).1) (fun r hr => (g.ok r hr).2.2.2) this
  have := g.top
  omega
theorem ok_int {w k : Nat} {i : Int} (h : i.natAbs ≤ 10 ^ 30) : Ok false w k (.int i) := Ok.int (Nat.lt_of_le_of_lt h (by decide +kernel))
theorem ok_oN {w k : Nat} {o : Option Nat} (h : ∀ a, o = some a → a ≤ 120) : Ok false w k (oN o) := by
  cases o with
  | none => exact Ok.none
  | some a =>
    have := h a rfl
    refine ok_int ?_
    show ((a : Nat) : Int).natAbs ≤ _
    exact Nat.le_trans (show ((a : Nat) : Int).natAbs ≤ 1000 by omega) (by decide +kernel)
theorem itm_oN {o : Option Nat} : Itm (oN o) := by
  cases o with
  | none => exact .none
  | some a => exact .int _
theorem due_ok {n : Nat} {rs : List Road} {s R : List Nat} (g : GN n rs) (h : GS rs s) (gh : GH n R) : ∀ x ∈ (cnts n rs s R).map oN, Itm x ∧ Ok false 10 3 x := fun x hx => by
  obtain ⟨o, rfl, ho⟩ := itm_ok g h gh x hx
  exact ⟨itm_oN, ok_oN ho⟩
theorem callK4r {σ : Type} {F : List D → Rs D} {a b c d : D} : (callKM F [3, 2, 1, 0] [] [Kr.pv a, Kr.pv b, Kr.pv c, Kr.pv d] : Mx σ D) = lf (F [d, c, b, a]) := rfl
theorem c_neBB {i j : Bool} : cmpop .ne (.bool i) (.bool j) = some (!(i == j)) := rfl
theorem bool_repr (b : Bool) : reprOk (.bool b) = true := by cases b <;> decide +kernel
theorem nat_ok {w k x : Nat} (h : x ≤ 1000) : Ok false w k (encN x) := ok_int (show ((x : Nat) : Int).natAbs ≤ _ from Nat.le_trans (show ((x : Nat) : Int).natAbs ≤ 1000 by omega) (by decide +kernel))
theorem road_ok {r : Road} {n : Nat} (hn : n ≤ 12) (h : r.lo < r.hi ∧ r.hi < n ∧ 1 ≤ r.many ∧ r.many ≤ 10) : Ok false 10 2 (encR r) := by
  refine (Ok.tuple (b := false) (n := 3) (w := 1) (k := 1) (fun x hx => ?_) (by simp)).mono (by omega) (by omega)
  simp only [List.mem_cons, List.not_mem_nil, or_false] at hx
  rcases hx with rfl | rfl | rfl
  · exact nat_ok (x := r.lo) (by omega)
  · exact nat_ok (x := r.hi) (by omega)
  · exact nat_ok (x := r.many) (by omega)
theorem kept_ok {n : Nat} {rs : List Road} {s R : List Nat} (g : GN n rs) (h : GS rs s) (h32 : rs.length < 32) (gh : GH n R) : Ok true 10000 8 (.list [netD n rs, nL s, nL R]) := by
  have a : Ok false 2000 5 (netD n rs) := by
    have l : Ok false (32 * 11) 3 (.list (rs.map encR)) := Ok.list (n := 32) (w := 10) (k := 2) (fun x hx => by
      obtain ⟨r, hr, rfl⟩ := List.mem_map.mp hx
      exact road_ok g.top (g.ok r hr)) (by rw [List.length_map]; omega)
    refine (Ok.tuple (b := false) (n := 2) (w := 400) (k := 4) (fun x hx => ?_) (by simp)).mono (by omega) (by omega)
    simp only [List.mem_cons, List.not_mem_nil, or_false] at hx
    rcases hx with rfl | rfl
    · exact nat_ok (x := n) (by have := g.top; omega)
    · exact l.mono (by omega) (by omega)
  have b : Ok false 2000 5 (nL s) := by
    refine (Ok.list (b := false) (n := 40) (w := 1) (k := 1) (fun x hx => ?_) (by rw [List.length_map, h.len]; omega)).mono (by omega) (by omega)
    obtain ⟨y, hy, rfl⟩ := List.mem_map.mp hx
    obtain ⟨i, hi⟩ := List.getElem?_of_mem hy
    have hlt := (List.getElem?_eq_some_iff.mp hi).1
    have hl := h.len
    have hz : (y, rs[i]) ∈ s.zip rs := List.mem_of_getElem? (i := i) (by rw [List.getElem?_zip_eq_some]; exact ⟨hi, List.getElem?_eq_getElem (by omega)⟩)
    have h1 := h.ok _ hz
    have h2 := (g.ok rs[i] (List.getElem_mem (by omega))).2.2.2
    simp only at h1
    exact nat_ok (by omega)
  have c : Ok false 2000 5 (nL R) := by
    refine (Ok.list (b := false) (n := 40) (w := 1) (k := 1) (fun x hx => ?_) (by rw [List.length_map]; have := gh.len; omega)).mono (by omega) (by omega)
    obtain ⟨y, hy, rfl⟩ := List.mem_map.mp hx
    have := gh.lt y hy
    have := g.top
    exact nat_ok (by omega)
  refine ((Ok.list (b := false) (n := 3) (w := 2000) (k := 5) (fun x hx => ?_) (by simp)).mono (by omega) (by omega)).up (b := true)
  simp only [List.mem_cons, List.not_mem_nil, or_false] at hx
  rcases hx with rfl | rfl | rfl
  · exact a
  · exact b
  · exact c
theorem due_Ok {n : Nat} {rs : List Road} {s R : List Nat} (g : GN n rs) (h : GS rs s) (gh : GH n R) : Ok true 5000 8 (fD (cnts n rs s R)) :=
  ((Ok.list (n := 100) (fun x q => (due_ok g h gh x q).2) (by rw [List.length_map, cnts_len]; have := g.top; omega)).mono (by omega) (by omega)).up (b := false)
theorem Tp.stS {α : Type} {P : α → D → Prop} {g0 s : D} {k : Mx D α} (h : Kr.Tp P k g0) : Kr.Tp P (Kr.stS (Kr.pv g0) k) s := h
theorem cg1 {F : D → List D → Rs (D × D)} {a : D} {m : Mx D D} : callG F [Kr.pv a, m] = bd m fun x => callG F [Kr.pv a, Kr.pv x] := by
  funext s
  unfold callG
  simp only [sqM, pv_bd]
  unfold bd Kr.pv
  cases m s <;> rfl
end Kz

set_option Elab.async false
set_option linter.all false
set_option maxRecDepth 100000
set_option maxHeartbeats 1000000
namespace Kz
open PySem PySem.Spec PyProof.Rows L2 Kr Kt
/-! ### pairs in order -/
def plt (p q : Nat × Nat) : Prop := p.1 < q.1 ∨ p.1 = q.1 ∧ p.2 < q.2
def insP (x : Nat × Nat) : List (Nat × Nat) → List (Nat × Nat)
  | [] => [x]
  | y :: r => if x.1 < y.1 ∨ x.1 = y.1 ∧ x.2 ≤ y.2 then x :: y :: r else y :: insP x r
def isortP : List (Nat × Nat) → List (Nat × Nat)
  | [] => []
  | x :: r => insP x (isortP r)
def enI2 (p : Nat × Nat) : List Int := [(p.1 : Int), (p.2 : Int)]
theorem mem_insP {x y : Nat × Nat} : ∀ {l : List (Nat × Nat)}, y ∈ insP x l ↔ y = x ∨ y ∈ l
  | [] => by simp [insP]
  | z :: l => by
    rw [insP]
    split
    · simp
    · rw [List.mem_cons, mem_insP (l := l), List.mem_cons]
      constructor
      · rintro (h | h | h)
        · exact .inr (.inl h)
        · exact .inl h
        · exact .inr (.inr h)
      · rintro (h | h | h)
        · exact .inr (.inl h)
        · exact .inl h
        · exact .inr (.inr h)
theorem mem_isortP {y : Nat × Nat} : ∀ {l : List (Nat × Nat)}, y ∈ isortP l ↔ y ∈ l
  | [] => Iff.rfl
  | x :: l => by rw [isortP, mem_insP, mem_isortP, List.mem_cons]
theorem insP_len {x : Nat × Nat} : ∀ {l : List (Nat × Nat)}, (insP x l).length = l.length + 1
  | [] => rfl
  | y :: l => by
    rw [insP]
    split
    · rfl
    · rw [List.length_cons, insP_len (l := l), List.length_cons]
theorem isortP_len : ∀ {l : List (Nat × Nat)}, (isortP l).length = l.length
  | [] => rfl
  | x :: l => by rw [isortP, insP_len, isortP_len]; rfl
theorem insP_srt {x : Nat × Nat} : ∀ {l : List (Nat × Nat)}, l.Pairwise plt → x ∉ l → (insP x l).Pairwise plt
  | [], _, _ => by simp [insP]
  | y :: l, h, hx => by
    rw [insP]
    have h' := List.pairwise_cons.mp h
    split
    · rename_i c
      refine List.pairwise_cons.mpr ⟨fun z hz => ?_, h⟩
      have xy : plt x y := by
        rcases c with c | ⟨c1, c2⟩
        · exact .inl c
        · refine .inr ⟨c1, ?_⟩
          rcases Nat.lt_or_ge x.2 y.2 with q | q
          · exact q
          · exfalso
            apply hx
            have : x = y := Prod.ext c1 (by omega)
            rw [this]
            exact List.mem_cons_self
      rcases List.mem_cons.mp hz with rfl | hz
      · exact xy
      · have := h'.1 z hz
        unfold plt at *
        omega
    · rename_i c
      refine List.pairwise_cons.mpr ⟨fun z hz => ?_, insP_srt h'.2 fun q => hx (List.mem_cons_of_mem _ q)⟩
      rcases mem_insP.mp hz with rfl | hz
      · unfold plt
        omega
      · exact h'.1 z hz
theorem isortP_srt : ∀ {l : List (Nat × Nat)}, l.Nodup → (isortP l).Pairwise plt
  | [], _ => List.Pairwise.nil
  | x :: l, h => by
    have h' := List.nodup_cons.mp h
    rw [isortP]
    exact insP_srt (isortP_srt h'.2) fun q => h'.1 (mem_isortP.mp q)
theorem leL2 {p q : Nat × Nat} : leL (enI2 p) (enI2 q) = decide (p.1 < q.1 ∨ p.1 = q.1 ∧ p.2 ≤ q.2) := by
  unfold leL enI2
  rw [Bool.eq_iff_iff, decide_eq_true_eq]
  simp only [lexI]
  by_cases h1 : p.1 = q.1
  · rw [if_pos (by omega)]
    by_cases h2 : p.2 = q.2
    · rw [if_pos (by omega)]
      simp; omega
    · rw [if_neg (by omega)]
      by_cases h3 : p.2 < q.2
      · rw [if_pos (by omega)]
        simp; omega
      · rw [if_neg (by omega)]
        simp; omega
  · rw [if_neg (by omega)]
    by_cases h3 : p.1 < q.1
    · rw [if_pos (by omega)]
      simp; omega
    · rw [if_neg (by omega)]
      simp; omega
theorem insT_P {x : Nat × Nat} : ∀ {l : List (Nat × Nat)}, insT (enI2 x) (l.map enI2) = (insP x l).map enI2
  | [] => rfl
  | y :: l => by
    rw [List.map_cons, insT, leL2, insP]
    by_cases c : x.1 < y.1 ∨ x.1 = y.1 ∧ x.2 ≤ y.2
    · rw [if_pos (decide_eq_true c), if_pos c]; rfl
    · rw [if_neg (by rw [decide_eq_false c]; exact Bool.false_ne_true), if_neg c, insT_P]; rfl
theorem isortT_P : ∀ {l : List (Nat × Nat)}, isortT (l.map enI2) = (isortP l).map enI2
  | [] => rfl
  | x :: l => by
    show insT (enI2 x) (isortT (l.map enI2)) = _
    rw [isortT_P, insT_P]; rfl
theorem sorted_P (P : List (Nat × Nat)) (hl : P.length < 64) : b1v .sorted (.list (P.map encP)) = some (1, .list ((isortP P).map encP)) := by
  cases P with
  | nil => rfl
  | cons p0 P =>
    have e1 : intsD ((p0 :: P).map encP) = none := rfl
    have e2 : tupsD ((p0 :: P).map encP) = some ((p0 :: P).map enI2) := tupsD_pairs (p0 :: P)
    have e3 : (((p0 :: P).map enI2).headD []).length = 2 := rfl
    have e4 : (decide (((p0 :: P).map enI2).length < 64) && ((p0 :: P).map enI2).all (fun t => t.length == (((p0 :: P).map enI2).headD []).length && t.all (fun i => decide (0 ≤ i))) && decide (0 < (((p0 :: P).map enI2).headD []).length)) = true := by
      rw [e3]
      have : decide (((p0 :: P).map enI2).length < 64) = true := decide_eq_true (by rw [List.length_map]; exact hl)
      rw [this]
      simp [enI2]
    show (sortD ((p0 :: P).map encP)).map _ = _
    unfold sortD
    rw [e1]
    show ((tupsD ((p0 :: P).map encP)).bind _).map _ = _
    rw [e2]
    show (if _ then some ((isortT ((p0 :: P).map enI2)).map tupD) else none).map _ = _
    rw [if_pos e4, isortT_P, List.map_map]
    rfl
end Kz

set_option Elab.async false
set_option linter.all false
set_option maxRecDepth 100000
set_option maxHeartbeats 1000000
namespace Kz
open PySem PySem.Spec PyProof.Rows L2 Kr Kt
/-! ### the law's standings and houses -/
theorem f_lstanding {n m : Nat} {rs : List Road} {g : D} (gn : GN n rs) (hg : G (m + rs.length) g) :
    ∃ d g', F__law_standing g [netD n rs] = .ok (d, g') ∧ ∃ s, d = nL s ∧ GS rs s ∧ G m g' := by
  show ∃ d g', runG (q__law_standing (netD n rs)) g = _ ∧ _
  refine runG_of ?_
  have hl := gn.len
  unfold q__law_standing compM
  simp -implicitDefEqProofs only [ixM_pv, gt2_1, oM_sm, seqI_l, bd_pv_]
  unfold rtM
  simp -implicitDefEqProofs only [bd_bd]
  refine Kr.Tp.bd ((Kr.Tp.comp (fun j acc g => ∃ s : List Nat, acc = s.map encN ∧ s.length = j ∧ (∀ (i x : Nat) (r : Road), s[i]? = some x → rs[i]? = some r → x ≤ r.many) ∧ G (m + (rs.length - j)) g) (rs.map encR) 0 [] g ⟨[], rfl, rfl, fun i x r z => by simp at z, hg⟩ (fun j d acc g hd hI => ?_) (by rw [sizeLine_eq]; simp; omega)).imp fun acc s' q => ?_)
  · obtain ⟨s, rfl, q1, q2, q3⟩ := hI
    rw [Nat.zero_add] at q1 q3 ⊢
    rw [List.getElem?_map] at hd
    cases hr : rs[j]? with
    | none => rw [hr] at hd; cases hd
    | some r =>
      rw [hr] at hd
      cases hd
      have hj : j < rs.length := (List.getElem?_eq_some_iff.mp hr).1
      have hm := gn.ok r (List.mem_of_getElem? hr)
      unfold encR
      simp -implicitDefEqProofs only [un3_, opM_pv, bin_ii, iop_add, Option.map_some, dep_00, oM_sm]
      unfold allM
      refine Tp.rndb rndOk (m := m + (rs.length - (j + 1))) (q3.mono (by omega)) (by omega) fun x g' w1 w2 w3 => ?_
      refine .pv ⟨s ++ [x.toNat], ?_, by simp; omega, fun i y r' h1 h2 => ?_, w3⟩
      · rw [List.map_append]
        show _ = _ ++ [PyData.int ((x.toNat : Nat) : Int)]
        rw [Int.toNat_of_nonneg w1]
        rfl
      · rcases Nat.lt_or_ge i s.length with q | q
        · rw [List.getElem?_append_left q] at h1
          exact q2 i y r' h1 h2
        · rw [List.getElem?_append_right q] at h1
          have hi : i - s.length = 0 := by
            rcases Nat.eq_zero_or_pos (i - s.length) with z | z
            · exact z
            · rw [List.getElem?_eq_none (by simp; omega)] at h1; cases h1
          rw [hi] at h1
          have : i = j := by omega
          subst this
          rw [hr] at h2
          cases h2
          cases h1
          omega
  · obtain ⟨s, rfl, q1, q2, q3⟩ := q
    rw [List.length_map, Nat.zero_add] at q1 q3
    refine .pv ⟨_, rfl, s, rfl, ⟨q1, fun p hp => ?_⟩, q3.mono (by omega)⟩
    obtain ⟨i, hi⟩ := List.getElem?_of_mem hp
    rw [List.getElem?_zip_eq_some] at hi
    exact q2 i _ _ hi.1 hi.2
end Kz

set_option Elab.async false
set_option linter.all false
set_option maxRecDepth 100000
set_option maxHeartbeats 1000000
namespace Kz
open PySem PySem.Spec PyProof.Rows L2 Kr Kt
/-! ### the law's nets -/
theorem rg1_arg {σ : Type} {m : Mx σ D} : rg1 m = bd m fun x => rg1 (Kr.pv x) := rfl
theorem eqv_P {p q : Nat × Nat} : PyData.eqv (encP p) (encP q) = decide (p = q) := by
  have := c_eqT (a := (p.1 : Int)) (b := (p.2 : Int)) (c := (q.1 : Int)) (d := (q.2 : Int))
  have e : cmpop .eq (encP p) (encP q) = some (PyData.eqv (encP p) (encP q)) := by
    show (if SeqAt.shaped (encP p) && SeqAt.shaped (encP q) then some (PyData.eqv (encP p) (encP q)) else none) = _
    have sh : ∀ p : Nat × Nat, SeqAt.shaped (encP p) = true := fun p => rfl
    rw [sh, sh]; rfl
  have e2 : cmpop .eq (encP p) (encP q) = some (decide ((p.1 : Int) = (q.1 : Int) ∧ (p.2 : Int) = (q.2 : Int))) := this
  rw [e] at e2
  injection e2 with e2
  rw [e2, Bool.eq_iff_iff, decide_eq_true_eq, decide_eq_true_eq, Prod.ext_iff]
  omega
theorem inD_P (p : Nat × Nat) : ∀ P : List (Nat × Nat), inD (encP p) (P.map encP) = decide (p ∈ P)
  | [] => rfl
  | q :: P => by
    have ih := inD_P p P
    show (PyData.eqv (encP q) (encP p) || inD (encP p) (P.map encP)) = _
    rw [ih, eqv_P]
    by_cases z : q = p
    · subst z; simp
    · have z' : ¬ p = q := fun w => z w.symm
      simp [z, z']
theorem shaped_P (P : List (Nat × Nat)) : SeqAt.shaped (.list (P.map encP)) = true := by
  have h1 : PyData.canLayAll0 (P.map encP) = true := by
    induction P with
    | nil => rfl
    | cons x l ih => rw [List.map_cons, PyData.canLayAll0, ih]; rfl
  have h2 : PyData.depthAll (P.map encP) ≤ 1 := by
    clear h1
    induction P with
    | nil => exact Nat.zero_le _
    | cons x l ih =>
      rw [List.map_cons, PyData.depthAll]
      have : (encP x).depth = 1 := rfl
      omega
  unfold SeqAt.shaped
  rw [PyData.canLay0, PyData.depth, h1]
  simp only [Bool.true_and, decide_eq_true_eq]
  omega
theorem c_notinP (p : Nat × Nat) (P : List (Nat × Nat)) : cmpop .notin (encP p) (.list (P.map encP)) = some (!decide (p ∈ P)) := by
  show ((if SeqAt.shaped (encP p) && SeqAt.shaped (.list (P.map encP)) then some (inD (encP p) (P.map encP)) else none)).map (fun b => !b) = _
  rw [shaped_P, show SeqAt.shaped (encP p) = true from rfl, inD_P]
  rfl
structure PN (n k : Nat) (P : List (Nat × Nat)) : Prop where
  ok : ∀ p ∈ P, p.1 < p.2 ∧ p.2 < n
  nd : P.Nodup
  len : P.length ≤ k
theorem PN.app {n n' k : Nat} {P : List (Nat × Nat)} {p : Nat × Nat} (h : PN n k P) (hn : n ≤ n') (h1 : p.1 < p.2) (h2 : p.2 < n') (h3 : p ∉ P) : PN n' (k + 1) (P ++ [p]) := by
  have := h.len
  refine ⟨fun q hq => ?_, ?_, by simp; omega⟩
  · rcases List.mem_append.mp hq with hq | hq
    · have := h.ok q hq; omega
    · rw [List.mem_singleton] at hq; subst hq; exact ⟨h1, h2⟩
  · rw [List.nodup_append]
    refine ⟨h.nd, by simp, fun a ha b hb e => ?_⟩
    rw [List.mem_singleton] at hb
    subst hb e
    exact h3 ha
theorem PN.up {n n' k k' : Nat} {P : List (Nat × Nat)} (h : PN n k P) (hn : n ≤ n') (hk : k ≤ k') : PN n' k' P := ⟨fun p hp => by have := h.ok p hp; omega, h.nd, by have := h.len; omega⟩
theorem sort2 (a b : Int) : b1v .sorted (.list [.int a, .int b]) = some (1, .list [.int (if a ≤ b then a else b), .int (if a ≤ b then b else a)]) := by
  show (sortD [.int a, .int b]).map (fun ys => (1, PyData.list ys)) = _
  unfold sortD
  rw [show intsD [.int a, .int b] = some [a, b] from intsD_of [a, b]]
  show some (1, PyData.list ((insI a [b]).map PyData.int)) = _
  rw [insI]
  by_cases h : a ≤ b
  · rw [if_pos h, if_pos h, if_pos h]; rfl
  · rw [if_neg h, if_neg h, if_neg h]; rfl
end Kz

set_option Elab.async false
set_option linter.all false
set_option maxRecDepth 100000
set_option maxHeartbeats 1000000
namespace Kz
open PySem PySem.Spec PyProof.Rows L2 Kr Kt
end Kz

set_option Elab.async false
set_option linter.all false
set_option maxRecDepth 100000
set_option maxHeartbeats 1000000
namespace Kz
open PySem PySem.Spec PyProof.Rows L2 Kr Kt
/-! ### keys behind works -/
def stw : List Road → List Nat → (Nat → Nat) → List Nat
  | r :: rs, a :: s, x => (a + x r.lo - x r.hi) :: stw rs s x
  | _, _, _ => []
def RI (rs : List Road) (s : List Nat) (x : Nat → Nat) : Prop := ∀ p ∈ s.zip rs, x p.2.hi ≤ p.1 + x p.2.lo ∧ x p.2.lo ≤ (p.2.many - p.1) + x p.2.hi
theorem RI.tail {r : Road} {rs : List Road} {a : Nat} {s : List Nat} {x : Nat → Nat} (h : RI (r :: rs) (a :: s) x) : RI rs s x := fun p hp => h p (by rw [List.zip_cons_cons]; exact List.mem_cons_of_mem _ hp)
theorem RI.head {r : Road} {rs : List Road} {a : Nat} {s : List Nat} {x : Nat → Nat} (h : RI (r :: rs) (a :: s) x) : x r.hi ≤ a + x r.lo ∧ x r.lo ≤ (r.many - a) + x r.hi := h (a, r) (by rw [List.zip_cons_cons]; exact List.mem_cons_self)
theorem GS.tail {r : Road} {rs : List Road} {a : Nat} {s : List Nat} (h : GS (r :: rs) (a :: s)) : GS rs s := ⟨by simpa using h.len, fun p hp => h.ok p (by rw [List.zip_cons_cons]; exact List.mem_cons_of_mem _ hp)⟩
theorem GS.head {r : Road} {rs : List Road} {a : Nat} {s : List Nat} (h : GS (r :: rs) (a :: s)) : a ≤ r.many := h.ok (a, r) (by rw [List.zip_cons_cons]; exact List.mem_cons_self)
theorem GS.cons {r : Road} {rs : List Road} {a : Nat} {s : List Nat} (h : GS rs s) (ha : a ≤ r.many) : GS (r :: rs) (a :: s) := ⟨by simp [h.len], fun p hp => by
  rw [List.zip_cons_cons] at hp
  rcases List.mem_cons.mp hp with rfl | hp
  · exact ha
  · exact h.ok p hp⟩
theorem stw_gs : ∀ {rs : List Road} {s : List Nat} {x : Nat → Nat}, GS rs s → RI rs s x → GS rs (stw rs s x)
  | [], [], _, h, _ => h
  | [], _ :: _, _, h, _ => by have := h.len; simp at this
  | _ :: _, [], _, h, _ => by have := h.len; simp at this
  | r :: rs, a :: s, x, h, hi => by
    rw [stw]
    have h1 := hi.head
    have h2 := h.head
    exact (stw_gs h.tail hi.tail).cons (by omega)
theorem kw_stw : ∀ {rs : List Road} {s : List Nat} {x : Nat → Nat}, GS rs s → RI rs s x → ∀ u v, kw rs (stw rs s x) u v = (kw rs s u v).map fun c => c + x u - x v
  | [], s, x, h, _, u, v => by cases s <;> rfl
  | _ :: _, [], _, h, _, _, _ => by have := h.len; simp at this
  | r :: rs, a :: s, x, h, hi, u, v => by
    have h1 := hi.head
    have h2 := h.head
    rw [stw, kw, kw]
    by_cases q : r.lo = u ∧ r.hi = v
    · rw [if_pos q, if_pos q, q.1, q.2]; rfl
    · rw [if_neg q, if_neg q]
      by_cases q2 : r.lo = v ∧ r.hi = u
      · rw [if_pos q2, if_pos q2, q2.1, q2.2]
        rw [q2.1, q2.2] at h1
        show some (r.many - (a + x v - x u)) = some (r.many - a + x u - x v)
        congr 1
        omega
      · rw [if_neg q2, if_neg q2]
        exact kw_stw h.tail hi.tail u v
theorem stw_zero : ∀ {rs : List Road} {s : List Nat} {x : Nat → Nat}, s.length = rs.length → (∀ r ∈ rs, x r.lo = x r.hi) → stw rs s x = s
  | [], [], _, _, _ => rfl
  | [], _ :: _, _, h, _ => by simp at h
  | _ :: _, [], _, h, _ => by simp at h
  | r :: rs, a :: s, x, h, hx => by
    rw [stw, stw_zero (by simpa using h) fun q hq => hx q (List.mem_cons_of_mem _ hq), hx r List.mem_cons_self]
    congr 1
    omega
theorem stw_stw : ∀ {rs : List Road} {s : List Nat} {x y z : Nat → Nat}, RI rs s x → (∀ v, z v = x v + y v) → stw rs (stw rs s x) y = stw rs s z
  | [], _, _, _, _, _, _ => by simp [stw]
  | _ :: _, [], _, _, _, _, _ => by simp [stw]
  | r :: rs, a :: s, x, y, z, h, hz => by
    have h1 := h.head
    rw [stw, stw, stw, stw_stw h.tail hz, hz, hz]
    congr 1
    omega
theorem kw_road : ∀ {rs : List Road} {s : List Nat}, rs.Pairwise Road.lt → (∀ r ∈ rs, r.lo < r.hi) → ∀ p ∈ s.zip rs, kw rs s p.2.lo p.2.hi = some p.1 ∧ kw rs s p.2.hi p.2.lo = some (p.2.many - p.1)
  | [], s, _, _, p, hp => by simp at hp
  | _ :: _, [], _, _, p, hp => by simp at hp
  | r :: rs, a :: s, hs, ho, p, hp => by
    rw [List.zip_cons_cons] at hp
    have hs' := List.pairwise_cons.mp hs
    have hr := ho r List.mem_cons_self
    rcases List.mem_cons.mp hp with rfl | hp
    · simp only
      rw [kw, kw]
      refine ⟨by rw [if_pos ⟨rfl, rfl⟩], ?_⟩
      rw [if_neg (by omega), if_pos ⟨rfl, rfl⟩]
    · have hm : p.2 ∈ rs := (List.of_mem_zip hp).2
      have hl := hs'.1 p.2 hm
      have hp2 := ho p.2 (List.mem_cons_of_mem _ hm)
      have ih := kw_road hs'.2 (fun q hq => ho q (List.mem_cons_of_mem _ hq)) p hp
      unfold Road.lt at hl
      rw [kw, kw]
      rw [if_neg (by omega), if_neg (by omega), if_neg (by omega), if_neg (by omega)]
      exact ih
theorem RI.of {n : Nat} {rs : List Road} {s : List Nat} {x : Nat → Nat} (g : GN n rs) (hi : Inv (kw rs s) x) : RI rs s x := fun p hp => by
  obtain ⟨h1, h2⟩ := kw_road g.srt (fun r hr => (g.ok r hr).1) p hp
  exact ⟨hi _ _ _ h1, hi _ _ _ h2⟩
theorem RI.inv : ∀ {rs : List Road} {s : List Nat} {x : Nat → Nat}, RI rs s x → Inv (kw rs s) x
  | [], s, x, _, u, v, c, e => by cases s <;> cases e
  | _ :: _, [], _, _, _, _, _, e => by cases e
  | r :: rs, a :: s, x, h, u, v, c, e => by
    have h1 := h.head
    rw [kw] at e
    split at e
    · rename_i q
      cases e
      rw [q.1, q.2] at h1
      omega
    · split at e
      · rename_i q
        cases e
        rw [q.1, q.2] at h1
        omega
      · exact RI.inv h.tail u v c e
/-! ### who can work -/
def canB (rs : List Road) (s : List Nat) (v : Nat) : Bool := ((nbs rs v).filter fun m => decide (kw rs s m v = some 0)).isEmpty
theorem canB_iff {rs : List Road} {s : List Nat} (h : GS rs s) {v : Nat} : canB rs s v = true ↔ ∀ u c, kw rs s u v = some c → 0 < c := by
  unfold canB
  rw [List.isEmpty_iff, List.filter_eq_nil_iff]
  constructor
  · intro q u c e
    have hj : Joins rs u v := (kw_some h.len).mp ⟨c, e⟩
    have := q u (joins_nbs.mpr hj.symm)
    rw [decide_eq_true_eq, e] at this
    rcases Nat.eq_zero_or_pos c with z | z
    · subst z; exact absurd rfl this
    · exact z
  · intro q u hu
    rw [decide_eq_true_eq]
    intro e
    exact absurd (q u 0 e) (by omega)
theorem canB_stw {rs : List Road} {s : List Nat} {x : Nat → Nat} (h : GS rs s) (hi : RI rs s x) {v : Nat} : canB rs (stw rs s x) v = true ↔ ∀ u c, kw rs s u v = some c → x v < c + x u := by
  rw [canB_iff (stw_gs h hi)]
  constructor
  · intro q u c e
    have := q u (c + x u - x v) (by rw [kw_stw h hi, e]; rfl)
    omega
  · intro q u c e
    rw [kw_stw h hi] at e
    cases k : kw rs s u v with
    | none => rw [k] at e; cases e
    | some c0 =>
      rw [k] at e
      cases e
      have := q u c0 k
      show 0 < c0 + x u - x v
      omega
def ablB (n : Nat) (rs : List Road) (s R : List Nat) : List Nat := (List.range n).filter fun v => !decide (v ∈ R) && canB rs s v
theorem mem_abl {n : Nat} {rs : List Road} {s R : List Nat} {x : Nat → Nat} (h : GS rs s) (hi : RI rs s x) {v : Nat} : v ∈ ablB n rs (stw rs s x) R ↔ Abl (kw rs s) (fun a => a ∈ R) n x v := by
  unfold ablB Abl
  rw [List.mem_filter, List.mem_range, Bool.and_eq_true, canB_stw h hi, Bool.not_eq_true', decide_eq_false_iff_not]
def one (u : Nat) : Nat → Nat := fun v => if v = u then 1 else 0
theorem bump_one {x : Nat → Nat} {u v : Nat} : Kt.bump x u v = x v + one u v := by
  unfold Kt.bump one
  split <;> omega
/-- runs past resting houses -/
inductive Run (w : W) (R : Nat → Prop) (n : Nat) : (Nat → Nat) → List Nat → (Nat → Nat) → Prop
  | nil (x : Nat → Nat) : Run w R n x [] x
  | cons {x y : Nat → Nat} {h : Nat} {p : List Nat} : Abl w R n x h → Run w R n (Kt.bump x h) p y → Run w R n x (h :: p) y
theorem Run.snoc {w : W} {R : Nat → Prop} {n : Nat} {x y : Nat → Nat} {h : Nat} : ∀ {p : List Nat}, Run w R n x p y → Abl w R n y h → Run w R n x (p ++ [h]) (Kt.bump y h)
  | _, .nil _, a => .cons a (.nil _)
  | _, .cons b r, a => .cons b (r.snoc a)
theorem Run.rch {w : W} {R : Nat → Prop} {n : Nat} : ∀ {x y : Nat → Nat} {p : List Nat}, Run w R n x p y → Rch w R x → Rch w R y
  | _, _, _, .nil _, h => h
  | _, _, _, .cons a r, h => r.rch (.step h a.2.1 a.2.2)
theorem Run.cnt {w : W} {R : Nat → Prop} {n : Nat} : ∀ {x y : Nat → Nat} {p : List Nat}, Run w R n x p y → ∀ v, y v = x v + p.count v
  | _, _, _, .nil _, v => by simp
  | _, _, _, .cons (h := h) a r, v => by
    rw [r.cnt v, bump_one, List.count_cons]
    unfold one
    by_cases q : v = h
    · subst q; simp; omega
    · rw [if_neg q, if_neg (by simpa using fun e => q e.symm)]; omega
theorem Run.lt {w : W} {R : Nat → Prop} {n : Nat} : ∀ {x y : Nat → Nat} {p : List Nat}, Run w R n x p y → ∀ v ∈ p, v < n
  | _, _, _, .nil _, v, h => by cases h
  | _, _, _, .cons a r, v, h => by
    rcases List.mem_cons.mp h with rfl | h
    · exact a.1
    · exact r.lt v h
/-! sorting ints -/
theorem mem_insI {x y : Int} : ∀ {l : List Int}, y ∈ insI x l ↔ y = x ∨ y ∈ l
  | [] => by simp [insI]
  | z :: l => by
    rw [insI]
    split
    · simp
    · rw [List.mem_cons, mem_insI (l := l), List.mem_cons]
      constructor
      · rintro (h | h | h)
        · exact .inr (.inl h)
        · exact .inl h
        · exact .inr (.inr h)
      · rintro (h | h | h)
        · exact .inr (.inl h)
        · exact .inl h
        · exact .inr (.inr h)
theorem mem_isortI {y : Int} : ∀ {l : List Int}, y ∈ isortI l ↔ y ∈ l
  | [] => Iff.rfl
  | x :: l => by
    show y ∈ insI x (isortI l) ↔ _
    rw [mem_insI, mem_isortI, List.mem_cons]
theorem insI_srt {x : Int} : ∀ {l : List Int}, l.Pairwise (· ≤ ·) → (insI x l).Pairwise (· ≤ ·)
  | [], _ => by simp [insI]
  | y :: l, h => by
    have h' := List.pairwise_cons.mp h
    rw [insI]
    split
    · rename_i q
      refine List.pairwise_cons.mpr ⟨fun z hz => ?_, h⟩
      rcases List.mem_cons.mp hz with rfl | hz
      · exact q
      · exact Int.le_trans q (h'.1 z hz)
    · refine List.pairwise_cons.mpr ⟨fun z hz => ?_, insI_srt h'.2⟩
      rcases mem_insI.mp hz with rfl | hz
      · omega
      · exact h'.1 z hz
theorem isortI_srt : ∀ {l : List Int}, (isortI l).Pairwise (· ≤ ·)
  | [] => List.Pairwise.nil
  | x :: l => insI_srt (isortI_srt (l := l))
theorem insI_perm {x : Int} : ∀ {l : List Int}, (insI x l).Perm (x :: l)
  | [] => .refl _
  | y :: l => by
    rw [insI]
    split
    · exact .refl _
    · exact (insI_perm (l := l)).cons y |>.trans (.swap x y l)
theorem isortI_perm : ∀ {l : List Int}, (isortI l).Perm l
  | [] => .refl _
  | x :: l => insI_perm.trans ((isortI_perm (l := l)).cons x)
def sortN (l : List Nat) : List Nat := (isortI (l.map fun x : Nat => (x : Int))).map Int.toNat
theorem sortN_pos {l : List Nat} : ∀ y ∈ isortI (l.map fun x : Nat => (x : Int)), 0 ≤ y := fun y hy => by
  rw [mem_isortI] at hy
  obtain ⟨x, _, rfl⟩ := List.mem_map.mp hy
  omega
theorem sorted_nL (l : List Nat) : b1v .sorted (nL l) = some (1, nL (sortN l)) := by
  show (sortD (l.map encN)).map _ = _
  unfold sortD
  rw [intsD_nat]
  unfold sortN
  show some (1, PyData.list _) = some (1, PyData.list (List.map encN (List.map Int.toNat _)))
  rw [List.map_map]
  refine congrArg (fun x => some (1, PyData.list x)) (List.map_congr_left fun y hy => ?_)
  have := sortN_pos y hy
  show PyData.int y = .int ((y.toNat : Nat) : Int)
  rw [Int.toNat_of_nonneg this]
theorem sortN_perm {l : List Nat} : (sortN l).Perm l := by
  unfold sortN
  have := (isortI_perm (l := l.map fun x : Nat => (x : Int))).map Int.toNat
  rw [List.map_map] at this
  have e : l.map (Int.toNat ∘ fun x : Nat => (x : Int)) = l := by
    conv => rhs; rw [← List.map_id l]
    exact List.map_congr_left fun x _ => by simp
  rw [e] at this
  exact this
theorem sortN_srt {l : List Nat} : (sortN l).Pairwise (· ≤ ·) := by
  unfold sortN
  rw [List.pairwise_map]
  refine (isortI_srt (l := l.map fun x : Nat => (x : Int))).imp_of_mem fun {a b} ha hb h => ?_
  have := sortN_pos a ha
  have := sortN_pos b hb
  omega
/-- sorting what is all different -/
theorem sortN_eq {l m : List Nat} (h : l.Perm m) (hs : m.Pairwise (· < ·)) : sortN l = m := by
  have p : (sortN l).Perm m := sortN_perm.trans h
  have nd : (sortN l).Nodup := p.nodup_iff.mpr (srt_nodup hs)
  refine srt_ext ?_ hs fun x => p.mem_iff
  refine (List.Pairwise.and sortN_srt nd).imp fun {a b} q => ?_
  have h1 := q.1
  have h2 : a ≠ b := q.2
  omega
end Kz

set_option Elab.async false
set_option linter.all false
set_option maxRecDepth 100000
set_option maxHeartbeats 1000000
namespace Kz
open PySem PySem.Spec PyProof.Rows L2 Kr Kt
/-! ### works, without any def -/
theorem abl_can {n : Nat} {rs : List Road} {s R : List Nat} {x : Nat → Nat} (h : GS rs s) (hi : RI rs s x) {v : Nat} (a : Abl (kw rs s) (fun a => a ∈ R) n x v) : canB rs (stw rs s x) v = true := (canB_stw h hi).mpr a.2.2
theorem rch_ri {n : Nat} {rs : List Road} {s R : List Nat} {x : Nat → Nat} (g : GN n rs) (h : GS rs s) (r : Rch (kw rs s) (fun a => a ∈ R) x) : RI rs s x := RI.of g fun u v c e => r.inv (kw_ne g h) u v c e
theorem RI.zero {rs : List Road} {s : List Nat} : RI rs s fun _ => 0 := fun p hp => by simp
theorem ablB_len {n : Nat} {rs : List Road} {s R : List Nat} : (ablB n rs s R).length ≤ n := by
  unfold ablB
  exact Nat.le_trans (List.length_filter_le _ _) (by rw [List.length_range]; exact Nat.le_refl _)
theorem bump_fold : ∀ {A : List Nat} {x : Nat → Nat}, A.Nodup → ∀ v, A.foldl Kt.bump x v = x v + if v ∈ A then 1 else 0
  | [], x, _, v => by simp
  | a :: A, x, h, v => by
    have h' := List.nodup_cons.mp h
    rw [List.foldl_cons, bump_fold h'.2, bump_one]
    unfold one
    by_cases q : v = a
    · subst q
      rw [if_pos rfl, if_neg h'.1, if_pos List.mem_cons_self]
    · rw [if_neg q]
      by_cases z : v ∈ A
      · rw [if_pos z, if_pos (List.mem_cons_of_mem _ z)]
      · rw [if_neg z, if_neg (fun w => (List.mem_cons.mp w).elim q z)]
/-- all who can work once -/
def nxt (n : Nat) (rs : List Road) (s R : List Nat) (x : Nat → Nat) : Nat → Nat := (ablB n rs (stw rs s x) R).foldl Kt.bump x
theorem ablB_nd {n : Nat} {rs : List Road} {s R : List Nat} : (ablB n rs s R).Nodup := List.nodup_range.filter _
theorem nxt_rnd {n : Nat} {rs : List Road} {s R : List Nat} {x : Nat → Nat} (h : GS rs s) (hi : RI rs s x) : Rnd (kw rs s) (fun a => a ∈ R) n x (nxt n rs s R x) :=
  ⟨fun v a => by unfold nxt; rw [bump_fold ablB_nd, if_pos ((mem_abl h hi).mpr a)], fun v a => by unfold nxt; rw [bump_fold ablB_nd, if_neg fun z => a ((mem_abl h hi).mp z)]; omega⟩
def nxts (n : Nat) (rs : List Road) (s R : List Nat) (x : Nat → Nat) : Nat → Nat → Nat
  | 0 => x
  | t + 1 => nxt n rs s R (nxts n rs s R x t)
theorem fold_nxts {n : Nat} {rs : List Road} {s R : List Nat} {x : Nat → Nat} : ∀ (t j k : Nat), (List.range' k t).foldl (fun y _ => nxt n rs s R y) (nxts n rs s R x j) = nxts n rs s R x (j + t)
  | 0, j, k => rfl
  | t + 1, j, k => by
    rw [List.range'_succ, List.foldl_cons, show j + (t + 1) = j + 1 + t by omega]
    exact fold_nxts t (j + 1) (k + 1)
theorem fold_rch {w : W} {R : Nat → Prop} {n : Nat} : ∀ (A : List Nat) (x : Nat → Nat), A.Nodup → (∀ v ∈ A, Abl w R n x v) → Rch w R x → Rch w R (A.foldl Kt.bump x)
  | [], x, _, _, r => r
  | v :: A, x, nd, ha, r => by
    have nd' := List.nodup_cons.mp nd
    have av := ha v List.mem_cons_self
    refine fold_rch (n := n) A (Kt.bump x v) nd'.2 (fun u hu => ?_) (.step r av.2.1 av.2.2)
    have au := ha u (List.mem_cons_of_mem _ hu)
    have ne : u ≠ v := fun e => nd'.1 (e ▸ hu)
    refine ⟨au.1, au.2.1, fun m c e => ?_⟩
    have := au.2.2 m c e
    rw [bump_one, bump_one]
    unfold one
    rw [if_neg ne]
    omega
theorem nxts_rch {n : Nat} {rs : List Road} {s R : List Nat} (g : GN n rs) (h : GS rs s) {x : Nat → Nat} (r : Rch (kw rs s) (fun a => a ∈ R) x) : ∀ t, Rch (kw rs s) (fun a => a ∈ R) (nxts n rs s R x t)
  | 0 => r
  | t + 1 => by
    have ih := nxts_rch g h r t
    exact fold_rch _ _ ablB_nd (fun v hv => (mem_abl h (rch_ri g h ih)).mp hv) ih
structure Gone (n : Nat) (rs : List Road) (s R : List Nat) (M : Nat) (y : Nat → Nat) : Prop where
  rch : Rch (kw rs s) (fun a => a ∈ R) y
  fin : ∀ v d, v < n → at_ (cnts n rs s R) v = some d → y v = d
  ab : (ablB n rs (stw rs s y) R).isEmpty = ((cnts n rs s R).filter (·.isNone)).isEmpty
  inf : ∀ v, v < n → at_ (cnts n rs s R) v = none → M + 2 ≤ y v
theorem at_lt {f : List (Option Nat)} {v d : Nat} (h : at_ f v = some d) : v < f.length := by
  rcases Nat.lt_or_ge v f.length with q | q
  · exact q
  · unfold at_ at h
    rw [List.getD_eq_getElem?_getD, List.getElem?_eq_none (by omega)] at h
    cases h
theorem at_mem {f : List (Option Nat)} {v : Nat} (h : v < f.length) : at_ f v ∈ f := by
  unfold at_
  rw [List.getD_eq_getElem?_getD, List.getElem?_eq_getElem h]
  exact List.getElem_mem h
theorem mem_at {f : List (Option Nat)} {o : Option Nat} (h : o ∈ f) : ∃ v, v < f.length ∧ at_ f v = o := by
  obtain ⟨i, hi, e⟩ := List.mem_iff_getElem.mp h
  refine ⟨i, hi, ?_⟩
  unfold at_
  rw [List.getD_eq_getElem?_getD, List.getElem?_eq_getElem hi, e]; rfl
theorem cnts_chip {n : Nat} {rs : List Road} {s R : List Nat} (g : GN n rs) (h : GS rs s) (gh : GH n R) {x : Nat → Nat} (r : Rch (kw rs s) (fun a => a ∈ R) x) {v d : Nat} (e : at_ (cnts n rs s R) v = some d) : x v ≤ d := by
  have D := cnts_d g h gh v
  rw [e] at D
  obtain ⟨p, hp⟩ := D.1
  exact chip_le (kw_ne g h) r hp _ _ rfl
theorem kw_symm {rs : List Road} {s : List Nat} (h : GS rs s) {u v c : Nat} (e : kw rs s u v = some c) : ∃ c', kw rs s v u = some c' := (kw_some h.len).mpr ((kw_some h.len).mp ⟨c, e⟩).symm
theorem gone_ok {n M : Nat} {rs : List Road} {s R : List Nat} {x : Nat → Nat} (g : GN n rs) (h : GS rs s) (gh : GH n R) (r : Rch (kw rs s) (fun a => a ∈ R) x) (hM : ∀ v d, at_ (cnts n rs s R) v = some d → d ≤ M) : Gone n rs s R M (nxts n rs s R x (n * (M + 2))) := by
  have hp := g.pos
  have rch := fun t => nxts_rch g h r t
  have hrr : ∀ t, Rnd (kw rs s) (fun a => a ∈ R) n (nxts n rs s R x t) (nxts n rs s R x (t + 1)) := fun t => nxt_rnd h (rch_ri g h (rch t))
  have hi : ∀ t, Inv (kw rs s) (nxts n rs s R x t) := fun t u v c e => (rch t).inv (kw_ne g h) u v c e
  have hn := kw_lt g h
  have D := fun v => cnts_d g h gh v
  have cl := cnts_len (n := n) (rs := rs) (s := s) (R := R)
  obtain ⟨F, hF⟩ : ∃ F, F = (List.range n).filter fun v => (at_ (cnts n rs s R) v).isSome := ⟨_, rfl⟩
  have mF : ∀ v, v ∈ F ↔ ∃ d, at_ (cnts n rs s R) v = some d := fun v => by
    rw [hF, List.mem_filter, List.mem_range]
    constructor
    · intro q
      exact Option.isSome_iff_exists.mp q.2
    · rintro ⟨d, e⟩
      exact ⟨by have := at_lt e; omega, by rw [e]; rfl⟩
  have lF : F.length ≤ n := by rw [hF]; exact Nat.le_trans (List.length_filter_le _ _) (by rw [List.length_range]; exact Nat.le_refl _)
  have cF : ∀ u v c, kw rs s u v = some c → v ∈ F → u ∈ F := fun u v c e hv => by
    obtain ⟨d, ed⟩ := (mF v).mp hv
    rw [mF]
    have Dv := D v
    rw [ed] at Dv
    obtain ⟨p, hp⟩ := Dv.1
    obtain ⟨c', e'⟩ := kw_symm h e
    cases q : at_ (cnts n rs s R) u with
    | none =>
      have Du := D u
      rw [q] at Du
      exact absurd (Wl.step hp e') (Du _ _)
    | some d => exact ⟨d, rfl⟩
  have fe := fin_end F cF hrr (K := M) (fun t v hv => by
    obtain ⟨d, e⟩ := (mF v).mp hv
    exact Nat.le_trans (cnts_chip g h gh (rch t) e) (hM v d e)) (T := n * (M + 2)) (by
      have : F.length * M ≤ n * M := Nat.mul_le_mul_right _ lF
      rw [Nat.mul_add]
      omega)
  have fin := chip_endC (n := n) (fun v => v ∈ F) cF (kw_ne g h) hn (rch (n * (M + 2))) fun v hv hm nR => by
    by_cases q : ∃ u c, kw rs s u v = some c ∧ c + nxts n rs s R x (n * (M + 2)) u ≤ nxts n rs s R x (n * (M + 2)) v
    · exact q
    · exact absurd ⟨hv, nR, fun u c e => by
        rcases Nat.lt_or_ge (nxts n rs s R x (n * (M + 2)) v) (c + nxts n rs s R x (n * (M + 2)) u) with z | z
        · exact z
        · exact absurd ⟨u, c, e, z⟩ q⟩ (fe v hm)
  have ri := rch_ri g h (rch (n * (M + 2)))
  refine ⟨rch _, fun v d hv e => ?_, ?_, fun v hv e => ?_⟩
  · have i1 := fin v hv ((mF v).mpr ⟨d, e⟩)
    have i2 := i1.unique (D v)
    rw [e] at i2
    injection i2
  · rw [Bool.eq_iff_iff, List.isEmpty_iff, List.isEmpty_iff, List.filter_eq_nil_iff]
    constructor
    · intro q o ho
      obtain ⟨v, hv, e⟩ := mem_at ho
      cases o with
      | some d => exact Bool.false_ne_true
      | none =>
        have Dv := D v
        rw [e] at Dv
        obtain ⟨u, au⟩ := live_able hn hi hrr (by omega) Dv (n * (M + 2))
        have := (mem_abl h ri).mpr au
        rw [q] at this
        cases this
    · intro q
      rw [List.eq_nil_iff_forall_not_mem]
      intro v hv
      have av := (mem_abl h ri).mp hv
      have hvn := av.1
      have := q _ (at_mem (f := cnts n rs s R) (v := v) (by omega))
      cases e : at_ (cnts n rs s R) v with
      | none => rw [e] at this; exact absurd rfl this
      | some d => exact fe v ((mF v).mpr ⟨d, e⟩) av
  · have Dv := D v
    rw [e] at Dv
    have := live_many hn hi hrr hv Dv (M + 2)
    omega
theorem shaped_fD (l : List (Option Nat)) : SeqAt.shaped (fD l) = true := by
  have h1 : PyData.canLayAll0 (l.map oN) = true := by
    induction l with
    | nil => rfl
    | cons x l ih =>
      rw [List.map_cons, PyData.canLayAll0, ih]
      cases x <;> rfl
  have h2 : PyData.depthAll (l.map oN) = 0 := by
    clear h1
    induction l with
    | nil => rfl
    | cons x l ih =>
      rw [List.map_cons, PyData.depthAll, ih]
      cases x <;> rfl
  unfold SeqAt.shaped
  rw [PyData.canLay0, PyData.depth, h1, h2]
  decide
theorem c_eq_fD (l : List (Option Nat)) : cmpop .eq (fD l) (.list []) = some l.isEmpty := by
  show (if SeqAt.shaped (fD l) && SeqAt.shaped (nL []) then some (PyData.eqv (fD l) (nL [])) else none) = _
  rw [shaped_fD, shaped_nL]
  cases l <;> rfl
theorem inD_none : ∀ l : List (Option Nat), inD .none (l.map oN) = !(l.filter (·.isNone)).isEmpty
  | [] => rfl
  | o :: l => by
    have ih := inD_none l
    show (PyData.eqv (oN o) .none || inD .none (l.map oN)) = _
    rw [ih, List.filter_cons]
    cases o with
    | none => rfl
    | some a => rfl
theorem c_isin_none (l : List (Option Nat)) : cmpop .isin .none (fD l) = some (!(l.filter (·.isNone)).isEmpty) := by
  show (if SeqAt.shaped .none && SeqAt.shaped (fD l) then some (inD .none (l.map oN)) else none) = _
  rw [shaped_fD, inD_none]
  rfl
theorem getLast_nL (l : List Nat) (x : Nat) : getI (nL (l ++ [x])) (-1) = some (.int (x : Nat)) := by
  show atI ((l ++ [x]).map encN) (-1) = _
  rw [show (l ++ [x]).map encN = l.map encN ++ [encN x] from List.map_append]
  have e : ixN (l.map encN ++ [encN x]).length (-1) = some l.length := by
    unfold ixN
    rw [List.length_append, List.length_map, List.length_singleton]
    rw [if_neg (by omega), if_pos (by omega)]
    congr 1
    omega
  unfold atI
  rw [e]
  show (l.map encN ++ [encN x])[l.length]? = _
  rw [List.getElem?_append_right (by simp)]
  simp [encN]
theorem tsM_ne (l : List Nat) {σ : Type} : (tsM (cmpM .ne (Kr.pv (nL l)) (Kr.pv (.list []))) : Mx σ Bool) = Kr.pv (!l.isEmpty) := by
  rw [cmpM_pv, c_ne_nL, oM_sm, bd_pv_, tsM_b]
theorem enum_range (f : Nat → D) : ∀ m k : Nat, enumD ((List.range' k m).map f) k = (List.range' k m).map fun i => PyData.tuple [.int (i : Nat), f i]
  | 0, k => rfl
  | m + 1, k => by
    rw [List.range'_succ, List.map_cons, List.map_cons, enumD, enum_range f m (k + 1)]
/-- how often each house has worked -/
abbrev tab (n : Nat) (x : Nat → Nat) : D := .list ((List.range' 0 n).map fun v => encN (x v))
theorem tab_get {n v : Nat} {x : Nat → Nat} (h : v < n) : getI (tab n x) (v : Int) = some (.int (x v : Nat)) := by
  refine get_nat? ?_
  rw [List.getElem?_map, List.getElem?_range' (by omega)]
  simp [encN]
theorem tab_set {n v : Nat} {x : Nat → Nat} (h : v < n) {σ α : Type} {k : D → Mx σ α} : setM (Kr.pv (.int ((x v + 1 : Nat) : Nat))) (Kr.pv (.int (v : Nat))) (tab n x) k = k (tab n (Kt.bump x v)) := by
  unfold setM
  rw [bd_pv_, bd_pv_]
  show bd (oM (ixN ((List.range' 0 n).map fun v => encN (x v)).length ((v : Nat) : Int))) _ = _
  have e : ixN ((List.range' 0 n).map fun v => encN (x v)).length ((v : Nat) : Int) = some v := by
    unfold ixN
    rw [if_pos (by omega), if_pos (by rw [List.length_map, List.length_range']; omega)]
    simp
  rw [e, oM_sm, bd_pv_]
  congr 2
  apply List.ext_getElem?
  intro i
  rw [List.getElem?_set]
  by_cases q : v = i
  · subst q
    rw [if_pos rfl, if_pos (by rw [List.length_map, List.length_range']; exact h), List.getElem?_map, List.getElem?_range' (by omega)]
    simp [encN, Kt.bump]
  · rw [if_neg q]
    rcases Nat.lt_or_ge i n with z | z
    · rw [List.getElem?_map, List.getElem?_map, List.getElem?_range' (by omega)]
      have : ¬ i = v := fun e => q e.symm
      simp [encN, Kt.bump, this]
    · rw [List.getElem?_eq_none (by simp; omega), List.getElem?_eq_none (by simp; omega)]
theorem mul_rep (d : D) (n : Nat) (hn : n ≤ 1000) : binop .mul (.list [d]) (.int (n : Nat)) = some (1, .list (List.replicate n d)) := by
  have hz := sizeLine_eq
  unfold binop
  simp only
  rw [if_pos ⟨trivial, by omega, by omega, by simp; omega⟩, Int.toNat_natCast]
  congr 3
  exact List.flatten_replicate_singleton
theorem mul_one (n : Nat) (hn : n ≤ 1000) : binop .mul (.list [.int 0]) (.int (n : Nat)) = some (1, tab n fun _ => 0) := by
  rw [mul_rep _ n hn]
  have : List.replicate n (PyData.int 0) = (List.range' 0 n).map fun v => encN 0 := by
    refine (List.eq_replicate_iff.mpr ⟨by simp, fun b hb => ?_⟩).symm
    obtain ⟨_, _, rfl⟩ := List.mem_map.mp hb
    rfl
  rw [this]
end Kz

set_option Elab.async false
set_option linter.all false
set_option maxRecDepth 100000
set_option maxHeartbeats 1000000
namespace Kz
open PySem PySem.Spec PyProof.Rows L2 Kr Kt
/-! ### the law's mates, who can work, standings behind works -/
theorem nL_snoc (l : List Nat) (x : Nat) : PyData.list (l.map encN ++ [.int (x : Nat)]) = nL (l ++ [x]) := by
  show _ = PyData.list (List.map encN (l ++ [x]))
  rw [List.map_append]; rfl
def mtl (rs : List Road) (u : Nat) : List Nat := rs.flatMap fun r => if u = r.lo then [r.hi] else if u = r.hi then [r.lo] else []
theorem mtl_perm {u : Nat} : ∀ {rs : List Road}, (∀ r ∈ rs, r.lo < r.hi) → (mtl rs u).Perm (nbs rs u)
  | [], _ => .refl _
  | r :: rs, ho => by
    have ih := mtl_perm (u := u) (rs := rs) fun q hq => ho q (List.mem_cons_of_mem _ hq)
    have hr := ho r List.mem_cons_self
    unfold mtl at ih ⊢
    unfold nbs at ih ⊢
    rw [List.flatMap_cons, List.filter_cons, List.filter_cons]
    by_cases q : u = r.lo
    · rw [if_pos q, if_neg (by simp; omega), if_pos (by simp; omega), List.map_cons]
      exact (ih.cons r.hi).trans List.perm_middle.symm
    · rw [if_neg q]
      by_cases q2 : u = r.hi
      · rw [if_pos q2, if_pos (by simp; omega), if_neg (by simp; omega), List.map_cons]
        exact ih.cons r.lo
      · rw [if_neg q2, if_neg (by simp; omega), if_neg (by simp; omega)]
        exact ih
theorem mtl_len {u : Nat} : ∀ {rs : List Road}, (mtl rs u).length ≤ rs.length
  | [] => by simp [mtl]
  | r :: rs => by
    have ih := mtl_len (u := u) (rs := rs)
    unfold mtl at ih ⊢
    rw [List.flatMap_cons, List.length_append, List.length_cons]
    have : (if u = r.lo then [r.hi] else if u = r.hi then [r.lo] else []).length ≤ 1 := by
      split
      · simp
      · split <;> simp
    omega
theorem nbs_len {n : Nat} {rs : List Road} (g : GN n rs) (u : Nat) : (nbs rs u).length ≤ 12 := by
  have := nodup_short n _ (srt_nodup (nbs_srt g u)) fun x hx => ((joins_nbs.mp hx).lt g).2.1
  have := g.top
  omega
theorem c_eqo0 (o : Option Nat) : cmpop .eq (oN o) (.int 0) = some (decide (o = some 0)) := by
  cases o with
  | none => rfl
  | some a =>
    show cmpop .eq (.int (a : Nat)) (.int 0) = _
    rw [c_eqI]
    congr 1
    by_cases z : a = 0
    · subst z; simp
    · rw [decide_eq_false (by omega), decide_eq_false (by simpa using z)]
theorem rng_map (n : Nat) : rangeD 0 n = (List.range n).map encN := by
  unfold rangeD encN
  simp
theorem stw_zip : ∀ {rs : List Road} {s : List Nat} {x : Nat → Nat}, stw rs s x = (s.zip rs).map fun p => p.1 + x p.2.lo - x p.2.hi
  | [], s, x => by cases s <;> rfl
  | _ :: _, [], _ => rfl
  | r :: rs, a :: s, x => by rw [stw, List.zip_cons_cons, List.map_cons, stw_zip]
theorem RI.one {n : Nat} {rs : List Road} {s : List Nat} (g : GN n rs) (h : GS rs s) {u : Nat} (hc : canB rs s u = true) : RI rs s (one u) := RI.of g fun a v c e => by
  have := (canB_iff h).mp hc
  unfold Kz.one
  by_cases q : v = u
  · subst q
    have := this a c e
    rw [if_pos rfl]; omega
  · rw [if_neg q]; omega
end Kz

set_option Elab.async false
set_option linter.all false
set_option maxRecDepth 100000
set_option maxHeartbeats 1000000
namespace Kz
open PySem PySem.Spec PyProof.Rows L2 Kr Kt
/-! ### runs, tallies, going on -/
end Kz

set_option Elab.async false
set_option linter.all false
set_option maxRecDepth 100000
set_option maxHeartbeats 1000000
namespace Kz
open PySem PySem.Spec PyProof.Rows L2 Kr Kt
/-! ### what is gone on with ends as the counts tell -/
/-! the last standing -/
end Kz

set_option Elab.async false
set_option linter.all false
set_option maxRecDepth 100000
set_option maxHeartbeats 1000000
namespace Kz
open PySem PySem.Spec PyProof.Rows L2 Kr Kt
/-! ### the law's look at counts (k20) -/
theorem fD_range {f : List (Option Nat)} {n : Nat} (h : f.length = n) : f.map oN = (List.range' 0 n).map fun v => oN (at_ f v) := by
  apply List.ext_getElem?
  intro i
  rcases Nat.lt_or_ge i n with z | z
  · rw [List.getElem?_map, List.getElem?_map, List.getElem?_range' (by omega), List.getElem?_eq_getElem (by omega)]
    simp only [Option.map_some, Nat.zero_add, Nat.one_mul]
    unfold at_
    rw [List.getD_eq_getElem?_getD, List.getElem?_eq_getElem (by omega)]
    rfl
  · rw [List.getElem?_eq_none (by simp; omega), List.getElem?_eq_none (by simp; omega)]
theorem nL_tab (n : Nat) (x : Nat → Nat) : nL ((List.range n).map x) = tab n x := by
  show PyData.list (List.map encN (List.map x (List.range n))) = _
  rw [List.map_map, List.range_eq_range']
  rfl
theorem mem_rng {n v : Nat} (h : v ∈ List.range' 0 n) : v < n := by
  have := List.mem_range'.mp h
  omega
theorem max_nL (a : Nat) (l : List Nat) : b1v .maxl (nL (a :: l)) = some (0, .int ((l.foldl max a : Nat) : Nat)) := by
  show (intsD ((a :: l).map encN)).bind _ = _
  rw [intsD_nat]
  show some (0, PyData.int ((l.map fun x : Nat => (x : Int)).foldl max (a : Int))) = _
  have : ∀ (l : List Nat) (a : Nat), (l.map fun x : Nat => (x : Int)).foldl max (a : Int) = ((l.foldl max a : Nat) : Int) := fun l => by
    induction l with
    | nil => intro a; rfl
    | cons b l ih =>
      intro a
      rw [List.map_cons, List.foldl_cons, List.foldl_cons, ← ih]
      congr 1
      omega
  rw [this]
theorem le_fmax : ∀ {l : List Nat} {a : Nat}, a ≤ l.foldl max a ∧ ∀ x ∈ l, x ≤ l.foldl max a
  | [], a => ⟨Nat.le_refl _, fun x h => by cases h⟩
  | b :: l, a => by
    rw [List.foldl_cons]
    obtain ⟨h1, h2⟩ := le_fmax (l := l) (a := max a b)
    refine ⟨by omega, fun x hx => ?_⟩
    rcases List.mem_cons.mp hx with rfl | hx
    · omega
    · exact h2 x hx
theorem fmax_le {K : Nat} : ∀ {l : List Nat} {a : Nat}, a ≤ K → (∀ x ∈ l, x ≤ K) → l.foldl max a ≤ K
  | [], a, h, _ => h
  | b :: l, a, h, hl => by
    rw [List.foldl_cons]
    have := hl b List.mem_cons_self
    exact fmax_le (by omega) fun x hx => hl x (List.mem_cons_of_mem _ hx)
def nums (f : List (Option Nat)) : List Nat := f.filterMap id
theorem nums_comp {σ : Type} {f : List (Option Nat)} (hl : f.length ≤ 1000) : (compM (Kr.pv (f.map oN)) (fun r3 => keepM (cmpM .isnot (Kr.pv r3) (Kr.pv .none)) (Kr.pv r3)) : Mx σ D) = Kr.pv (nL (nums f)) := by
  rw [compM_fm (T := Option Nat) (enc := oN) (fun o => o.map encN) (fun o _ => ?_) (sz (by omega))]
  · congr 2
    unfold nums
    clear hl
    induction f with
    | nil => rfl
    | cons o f ih =>
      cases o with
      | none => exact ih
      | some a => rw [List.filterMap_cons, List.filterMap_cons]; simp only [Option.map_some, id]; rw [ih]; rfl
  · rw [cmpM_pv, c_isnotN, oM_sm, bd_pv_, keepM_b]
    cases o <;> rfl
theorem mem_nums {f : List (Option Nat)} {x : Nat} : x ∈ nums f ↔ some x ∈ f := by
  unfold nums
  rw [List.mem_filterMap]
  exact ⟨fun ⟨o, h, e⟩ => by cases e; exact h, fun h => ⟨_, h, rfl⟩⟩
theorem callK3r {σ : Type} {F : List D → Rs D} {a b c : D} : (callKM F [2, 1, 0] [] [Kr.pv a, Kr.pv b, Kr.pv c] : Mx σ D) = lf (F [c, b, a]) := rfl
theorem nones_comp {σ : Type} {f : List (Option Nat)} (hl : f.length ≤ 1000) : (compM (Kr.pv (f.map oN)) (fun r3 => keepM (cmpM .is (Kr.pv r3) (Kr.pv .none)) (Kr.pv r3)) : Mx σ D) = Kr.pv (fD (f.filter (·.isNone))) := by
  rw [compM_filter (T := Option Nat) (enc := oN) (·.isNone) oN (fun o _ => ?_) (sz (by omega))]
  rw [cmpM_pv, c_isN, oM_sm, bd_pv_, keepM_b]
  cases o <;> rfl
theorem eqv_nL : ∀ l : List Nat, PyData.eqv (nL l) (nL l) = true := fun l => by
  have : cmpop .eq (nL l) (nL l) = some true := by
    have := shaped_nL l
    have e : ∀ l : List Nat, PyData.eqvAll (l.map encN) (l.map encN) = true := fun l => by
      induction l with
      | nil => rfl
      | cons x l ih =>
        rw [List.map_cons, PyData.eqvAll, ih]
        show ((x : Int) == (x : Int) && true) = true
        simp
    show (if SeqAt.shaped (nL l) && SeqAt.shaped (nL l) then some (PyData.eqv (nL l) (nL l)) else none) = _
    rw [this, PyData.eqv, e]
    rfl
  have e : cmpop .eq (nL l) (nL l) = some (PyData.eqv (nL l) (nL l)) := by
    show (if SeqAt.shaped (nL l) && SeqAt.shaped (nL l) then some (PyData.eqv (nL l) (nL l)) else none) = _
    rw [shaped_nL]; rfl
  rw [e] at this
  injection this
theorem c_ne_same (l : List Nat) : cmpop .ne (nL l) (nL l) = some false := by
  show (if SeqAt.shaped (nL l) && SeqAt.shaped (nL l) then some (!PyData.eqv (nL l) (nL l)) else none) = _
  rw [shaped_nL, eqv_nL]; rfl
theorem c_eqS (x : Str) (h : PyData.strOk x = true) : cmpop .eq (.str x) (.str x) = some true := c_eqSS h h ⟨fun _ => rfl, fun _ => rfl⟩
theorem st_Ok {n : Nat} {rs : List Road} {s : List Nat} (g : GN n rs) (h : GS rs s) : Ok true 5000 8 (nL s) := by
  have b : Ok false 2000 5 (nL s) := by
    refine (Ok.list (b := false) (n := 70) (w := 1) (k := 1) (fun x hx => ?_) (by rw [List.length_map, h.len]; have := g.len; omega)).mono (by omega) (by omega)
    obtain ⟨y, hy, rfl⟩ := List.mem_map.mp hx
    obtain ⟨i, hi⟩ := List.getElem?_of_mem hy
    have hlt := (List.getElem?_eq_some_iff.mp hi).1
    have hl := h.len
    have hz : (y, rs[i]) ∈ s.zip rs := List.mem_of_getElem? (i := i) (by rw [List.getElem?_zip_eq_some]; exact ⟨hi, List.getElem?_eq_getElem (by omega)⟩)
    have h1 := h.ok _ hz
    have h2 := (g.ok rs[i] (List.getElem_mem (by omega))).2.2.2
    simp only at h1
    exact nat_ok (by omega)
  exact (b.mono (by omega) (by omega)).up (b := true)
theorem GH.all {n : Nat} (hn : n ≤ 12) : GH n (List.range n) := ⟨fun h hh => List.mem_range.mp hh, List.pairwise_lt_range, by rw [List.length_range]; exact hn⟩
theorem cnts_all {n : Nat} {rs : List Road} {s : List Nat} (g : GN n rs) (h : GS rs s) {v d : Nat} (hv : v < n) : at_ (cnts n rs s (List.range n)) v = some 0 := by
  have D := cnts_d g h (GH.all g.top) v
  have : IsD (fun x => x ∈ List.range n ∨ Zr (kw rs s) x) (kw rs s) v (some 0) := ⟨⟨[], .base (.inl (List.mem_range.mpr hv))⟩, fun _ _ _ => Nat.zero_le _⟩
  exact D.unique this
end Kz

set_option Elab.async false
set_option linter.all false
set_option maxRecDepth 100000
set_option maxHeartbeats 1000000
namespace Kz
open PySem PySem.Spec PyProof.Rows L2 Kr Kt
/-! ### the law of k20 -/
theorem sqM_c {σ : Type} {m : Mx σ D} {r : List (Mx σ D)} : sqM (m :: r) = bd m fun x => bd (sqM r) fun xs => Kr.pv (x :: xs) := rfl
theorem sqM_map {σ : Type} : ∀ (l : List D), (sqM (l.map fun d => (Kr.pv d : Mx σ D))) = Kr.pv l
  | [] => rfl
  | x :: l => by
    rw [List.map_cons, sqM_cons, sqM_map l, bd_pv_]
theorem lstM_map {σ : Type} (l : List D) (h : l.length ≤ 100) : (lstM (l.map fun d => (Kr.pv d : Mx σ D))) = Kr.pv (.list l) := by
  unfold lstM
  rw [sqM_map, bd_pv_, if_pos (ten_le h)]
theorem callG_sq {F : D → List D → Rs (D × D)} {l : List (Mx D D)} : callG F l = bd (sqM l) fun ds => callG F (ds.map fun d => Kr.pv d) := by
  funext s
  unfold callG bd
  cases h : sqM l s with
  | st => rfl
  | ex c d => rfl
  | ok p => simp only [sqM_map]; rfl
instance (a b : Road) : Decidable (Road.lt a b) := inferInstanceAs (Decidable (_ ∨ _ ∧ _))
section
variable {a b c d : D}
theorem sz_1 : ([a].length ≤ sizeLine) = True := eq_true (ten_le (by simp))
theorem sz_2 : ([a, b].length ≤ sizeLine) = True := eq_true (ten_le (by simp))
theorem sz_3 : ([a, b, c].length ≤ sizeLine) = True := eq_true (ten_le (by simp))
theorem sz_4 : ([a, b, c, d].length ≤ sizeLine) = True := eq_true (ten_le (by simp))
end
theorem tru_b {α σ : Type} {P : α → σ → Prop} {p q : Mx σ α} {s : σ} {t : Bool} (h1 : t = true → Kr.Tp P p s) (h2 : t = false → Kr.Tp P q s) : Kr.Tp (fun t s' => if t = true then Kr.Tp P p s' else Kr.Tp P q s') (truM (PyData.bool t)) s := by
  refine ⟨t, s, rfl, ?_⟩
  cases t with
  | true => exact h1 rfl
  | false => exact h2 rfl
def rs7 : List Road := [⟨0, 1, 1⟩, ⟨0, 2, 1⟩, ⟨1, 2, 1⟩, ⟨3, 4, 1⟩, ⟨3, 5, 1⟩, ⟨4, 5, 1⟩, ⟨4, 6, 2⟩]
def rs8 : List Road := [⟨0, 1, 1⟩, ⟨0, 2, 1⟩, ⟨1, 2, 1⟩, ⟨2, 3, 2⟩, ⟨3, 4, 1⟩, ⟨3, 5, 1⟩, ⟨4, 5, 1⟩, ⟨4, 6, 2⟩]
theorem gn7 : GN 7 rs7 := ⟨by decide, by decide, by decide, by decide, by decide⟩
theorem gn8 : GN 7 rs8 := ⟨by decide, by decide, by decide, by decide, by decide⟩
def tr4 : List D := [.list [.int 0, .int 1, .int 0], .list [.int 0, .int 1, .int 0], .list [.int 1, .int 0, .int 1], .list [.int 1, .int 1, .int 0]]
theorem tr4_get {r : Int} (h0 : 0 ≤ r) (h : r < 4) : ∃ a b c : Nat, getI (.list tr4) r = some (nL [a, b, c]) ∧ a ≤ 1 ∧ b ≤ 1 ∧ c ≤ 1 := by
  have : r = 0 ∨ r = 1 ∨ r = 2 ∨ r = 3 := by omega
  rcases this with rfl | rfl | rfl | rfl
  · exact ⟨0, 1, 0, rfl, by decide, by decide, by decide⟩
  · exact ⟨0, 1, 0, rfl, by decide, by decide, by decide⟩
  · exact ⟨1, 0, 1, rfl, by decide, by decide, by decide⟩
  · exact ⟨1, 1, 0, rfl, by decide, by decide, by decide⟩
theorem gs_nil : GS [] [] := ⟨rfl, fun p hp => by cases hp⟩
theorem gs7 {a b c d e f k : Nat} (h1 : a ≤ 1) (h2 : b ≤ 1) (h3 : c ≤ 1) (h4 : d ≤ 1) (h5 : e ≤ 1) (h6 : f ≤ 1) (h7 : k ≤ 2) : GS rs7 [a, b, c, d, e, f, k] :=
  ((((((gs_nil.cons (r := ⟨4, 6, 2⟩) h7).cons (r := ⟨4, 5, 1⟩) h6).cons (r := ⟨3, 5, 1⟩) h5).cons (r := ⟨3, 4, 1⟩) h4).cons (r := ⟨1, 2, 1⟩) h3).cons (r := ⟨0, 2, 1⟩) h2).cons (r := ⟨0, 1, 1⟩) h1
theorem gs8 {a b c j d e f k : Nat} (h1 : a ≤ 1) (h2 : b ≤ 1) (h3 : c ≤ 1) (hj : j ≤ 2) (h4 : d ≤ 1) (h5 : e ≤ 1) (h6 : f ≤ 1) (h7 : k ≤ 2) : GS rs8 [a, b, c, j, d, e, f, k] :=
  (((((((gs_nil.cons (r := ⟨4, 6, 2⟩) h7).cons (r := ⟨4, 5, 1⟩) h6).cons (r := ⟨3, 5, 1⟩) h5).cons (r := ⟨3, 4, 1⟩) h4).cons (r := ⟨2, 3, 2⟩) hj).cons (r := ⟨1, 2, 1⟩) h3).cons (r := ⟨0, 2, 1⟩) h2).cons (r := ⟨0, 1, 1⟩) h1
end Kz

set_option Elab.async false
set_option linter.all false
set_option maxRecDepth 100000
set_option maxHeartbeats 1000000
namespace Kz
open PySem PySem.Spec PyProof.Rows L2 Kr Kt
/-! ### k29: the law's keys, mates, works -/
theorem zip_map2 : ∀ (rs : List Road) (s : List Nat), zipD (rs.map encR) (s.map encN) = (rs.zip s).map fun p => .tuple [encR p.1, encN p.2]
  | [], _ => by simp [zipD]
  | _ :: _, [] => by simp [zipD]
  | r :: rs, x :: s => by
    rw [List.map_cons, List.map_cons, zipD, zip_map2 rs s]; rfl
theorem minmax_ne {u v : Nat} (r : Road) (hr : r.lo < r.hi) : (r.lo = (if v < u then v else u) ∧ r.hi = (if v > u then v else u)) ↔ (r.lo = u ∧ r.hi = v) ∨ (r.lo = v ∧ r.hi = u) := by
  split <;> split <;> omega
theorem b2_minN {u v : Nat} : b2v .min (.int (u : Nat)) (.int (v : Nat)) = some (0, .int ((if v < u then v else u : Nat) : Nat)) := by
  rw [b2_min]
  congr 3
  split <;> split <;> omega
theorem b2_maxN {u v : Nat} : b2v .max (.int (u : Nat)) (.int (v : Nat)) = some (0, .int ((if v > u then v else u : Nat) : Nat)) := by
  rw [b2_max]
  congr 3
  split <;> split <;> omega
theorem e_lk_loop {γ : Type} (net st : D) (u v : Nat) : ∀ (rs : List Road) (s : List Nat), s.length = rs.length → (∀ r ∈ rs, r.lo < r.hi) → (∀ p ∈ s.zip rs, p.1 ≤ p.2.many) →
    (forG (l__law_k_0 net st (.int (u : Nat)) (.int (v : Nat))) ((rs.zip s).map fun p => .tuple [encR p.1, encN p.2]) () : Mx Unit (Oc Unit γ)) = match kw rs s u v with | none => Kr.pv (.nx ()) | some k => Kr.pv (.rt (.int (k : Nat)))
  | [], s, hl, _, _ => by
    cases s with
    | nil => rfl
    | cons => simp at hl
  | r :: rs, [], hl, _, _ => by simp at hl
  | r :: rs, x :: s, hl, ho, hz => by
    have ih := e_lk_loop (γ := γ) net st u v rs s (by simpa using hl) (fun q hq => ho q (List.mem_cons_of_mem _ hq)) fun p hp => hz p (by rw [List.zip_cons_cons]; exact List.mem_cons_of_mem _ hp)
    have hx : x ≤ r.many := hz (x, r) (by rw [List.zip_cons_cons]; exact List.mem_cons_self)
    have hr := ho r List.mem_cons_self
    rw [List.zip_cons_cons, List.map_cons, forG_cons]
    have step : (l__law_k_0 net st (.int (u : Nat)) (.int (v : Nat)) (.tuple [encR r, encN x]) () : Mx Unit (Oc Unit Unit)) = if r.lo = u ∧ r.hi = v then Kr.pv (.rt (.int (x : Nat))) else if r.lo = v ∧ r.hi = u then Kr.pv (.rt (.int ((r.many - x : Nat) : Nat))) else Kr.pv (.nx ()) := by
      unfold l__law_k_0
      have es : ((r.many : Nat) : Int) - (x : Nat) = ((r.many - x : Nat) : Int) := by omega
      have e2 : slD (encR r) none (some 2) = some (0, .tuple [.int (r.lo : Nat), .int (r.hi : Nat)]) := rfl
      have e3 : getI (encR r) 2 = some (.int (r.many : Nat)) := rfl
      unfold encN
      simp -implicitDefEqProofs only [un2_, noP_, exP_, slM_pv, e2, dep_00, oM_sm, b2M_pv, b2_minN, b2_maxN, tup2, cmpM_pv, c_eqT, dec_nat2, bd_pv_, tsM_b, c_gtI, ixM_pv, e3, opM_pv, bin_ii, iop_sub, Option.map_some, es]
      by_cases q : (r.lo = u ∧ r.hi = v) ∨ (r.lo = v ∧ r.hi = u)
      · rw [decide_eq_true ((minmax_ne r hr).mpr q), iteM_t]
        rcases q with q | q
        · rw [if_pos q, decide_eq_true (show ((u : Nat) : Int) < (v : Nat) by omega), iteM_t, rtM_]
        · rw [if_neg (by omega), if_pos q, decide_eq_false (show ¬ ((u : Nat) : Int) < (v : Nat) by omega), iteM_f, rtM_]
      · rw [decide_eq_false fun z => q ((minmax_ne r hr).mp z), iteM_f, if_neg fun z => q (.inl z), if_neg fun z => q (.inr z), nxM_]
    rw [step, kw]
    by_cases h1 : r.lo = u ∧ r.hi = v
    · rw [if_pos h1, if_pos h1]; rfl
    · rw [if_neg h1, if_neg h1]
      by_cases h2 : r.lo = v ∧ r.hi = u
      · rw [if_pos h2, if_pos h2]; rfl
      · rw [if_neg h2, if_neg h2, bd_pv_]
        exact ih
theorem e_lk {n : Nat} {rs : List Road} {s : List Nat} (g : GN n rs) (h : GS rs s) (u v : Nat) : F__law_k [netD n rs, nL s, .int (u : Nat), .int (v : Nat)] = .ok (oN (kw rs s u v)) := by
  show runM (q__law_k (netD n rs) (nL s) (.int (u : Nat)) (.int (v : Nat))) = _
  unfold q__law_k
  have := e_lk_loop (γ := Empty) (netD n rs) (nL s) u v rs s h.len (fun r hr => (g.ok r hr).1) h.ok
  simp -implicitDefEqProofs only [ixM_pv, gt2_1, oM_sm, zpI_l, zip_map2, forM_, this]
  cases kw rs s u v with
  | none => simp -implicitDefEqProofs only [sqO_n, rtM_, runM_r]; rfl
  | some k => simp -implicitDefEqProofs only [sqO_r, runM_r]; rfl
theorem e_lmates {n : Nat} {rs : List Road} (g : GN n rs) (u : Nat) : F__law_mates [netD n rs, .int (u : Nat)] = .ok (nL (nbs rs u)) := by
  show runM (q__law_mates (netD n rs) (.int (u : Nat))) = _
  unfold q__law_mates
  have ht := g.top
  have hl := g.len
  have e3 : getI (netD n rs) 0 = some (.int (n : Nat)) := rfl
  have inner : ∀ m : Nat, (compM (Kr.pv (rs.map encR)) (fun r2 => keepM (cmpM .eq (slM 0 (Kr.pv r2) noP (exP (Kr.pv (.int 2)))) (tupM [b2M .min (Kr.pv (.int (m : Nat))) (Kr.pv (.int (u : Nat))), b2M .max (Kr.pv (.int (m : Nat))) (Kr.pv (.int (u : Nat)))])) (Kr.pv (.int 1))) : Mx Unit D) = Kr.pv (nL ((rs.filter fun r => decide ((r.lo = m ∧ r.hi = u) ∨ (r.lo = u ∧ r.hi = m))).map fun _ => 1)) := fun m => by
    rw [compM_filter (T := Road) (enc := encR) (fun r => decide ((r.lo = m ∧ r.hi = u) ∨ (r.lo = u ∧ r.hi = m))) (fun _ => .int 1) (fun r hr => ?_) (sz (by omega))]
    · show _ = Kr.pv (PyData.list (List.map encN (List.map _ _)))
      rw [List.map_map]
      rfl
    · have e2 : slD (encR r) none (some 2) = some (0, .tuple [.int (r.lo : Nat), .int (r.hi : Nat)]) := rfl
      simp -implicitDefEqProofs only [noP_, exP_, slM_pv, e2, dep_00, oM_sm, b2M_pv, b2_minN, b2_maxN, tup2, cmpM_pv, c_eqT, dec_nat2, bd_pv_, keepM_b]
      rw [decide_eq_decide.mpr (minmax_ne (u := m) (v := u) r (g.ok r hr).1)]
  have all : (compM (Kr.pv (rangeD 0 n)) (fun r1 => keepM (andM (cmpM .ne (Kr.pv r1) (Kr.pv (.int (u : Nat)))) (cmpM .ne (compM (seqI (ixM (Kr.pv (netD n rs)) (Kr.pv (.int 1)))) fun r2 => keepM (cmpM .eq (slM 0 (Kr.pv r2) noP (exP (Kr.pv (.int 2)))) (tupM [b2M .min (Kr.pv r1) (Kr.pv (.int (u : Nat))), b2M .max (Kr.pv r1) (Kr.pv (.int (u : Nat)))])) (Kr.pv (.int 1))) (lstM []))) (Kr.pv r1)) : Mx Unit D) = Kr.pv (nL ((List.range n).filter fun m => decide (m ≠ u) && !(rs.filter fun r => decide ((r.lo = m ∧ r.hi = u) ∨ (r.lo = u ∧ r.hi = m))).isEmpty)) := by
    have rm : rangeD 0 n = (List.range n).map encN := by
      unfold rangeD encN
      simp
    rw [rm, compM_filter (T := Nat) (enc := encN) _ encN (fun m _ => ?_) (sz (by rw [List.length_range]; omega))]
    unfold encN
    rw [ixM_pv, gt2_1, oM_sm, seqI_l, inner m, lst0]
    simp -implicitDefEqProofs only [cmpM_pv, c_ne_nL, c_neI, oM_sm, bd_pv_, andM_bb, keepM_b, dec_nat]
    congr 3
    cases rs.filter fun r => decide ((r.lo = m ∧ r.hi = u) ∨ (r.lo = u ∧ r.hi = m)) <;> simp
  rw [ixM_pv, e3, oM_sm, rg1_pv (by omega), Int.toNat_natCast, all, rtM_, runM_r]
  congr 2
  congr 1
  refine srt_ext ((List.pairwise_lt_range).filter _) (nbs_srt g u) fun v => ?_
  rw [List.mem_filter, List.mem_range, joins_nbs]
  simp only [Bool.and_eq_true, decide_eq_true_eq, Bool.not_eq_true', Bool.eq_false_iff, ne_eq, List.isEmpty_iff, List.filter_eq_nil_iff]
  constructor
  · rintro ⟨_, _, q⟩
    by_cases z : ∃ r ∈ rs, (r.lo = u ∧ r.hi = v) ∨ (r.lo = v ∧ r.hi = u)
    · exact z
    · exact absurd (fun r hr w => z ⟨r, hr, w.symm⟩) q
  · intro j
    have jl := j.lt g
    refine ⟨jl.2.1, fun e => jl.2.2 e.symm, fun z => ?_⟩
    obtain ⟨r, hr, w⟩ := j
    exact z r hr w.symm
theorem e_lcan {n : Nat} {rs : List Road} {s : List Nat} (g : GN n rs) (h : GS rs s) (u : Nat) : F__law_can [netD n rs, nL s, .int (u : Nat)] = .ok (.bool (canB rs s u)) := by
  show runM (q__law_can (netD n rs) (nL s) (.int (u : Nat))) = _
  unfold q__law_can canB
  have hl := nbs_len g u
  rw [call2, e_lmates g, lf_ok, seqI_l, compM_filter (T := Nat) (enc := encN) (fun m => decide (kw rs s m u = some 0)) encN (fun m _ => ?_) (sz (by omega))]
  · rw [lst0, cmpM_pv, c_eq_nL, oM_sm, bd_pv_, rtM_, runM_r]
  · have fk := e_lk g h m u
    unfold encN
    rw [call4, fk, lf_ok, cmpM_pv, c_eqo0, oM_sm, bd_pv_, keepM_b]
theorem e_lwork {n : Nat} {rs : List Road} {s : List Nat} (g : GN n rs) (h : GS rs s) {u : Nat} (hc : canB rs s u = true) : F__law_work [netD n rs, nL s, .int (u : Nat)] = .ok (nL (stw rs s (one u))) := by
  show runM (q__law_work (netD n rs) (nL s) (.int (u : Nat))) = _
  unfold q__law_work
  have hl := g.len
  have hi := RI.one g h hc
  have all : ∀ (T : List Road) (t acc : List Nat), (∀ r ∈ T, r.lo < r.hi) → RI T t (one u) → acc.length + T.length ≤ 1000 → t.length = T.length → (forG (l__law_work_0 (netD n rs) (nL s) (.int (u : Nat))) ((T.zip t).map fun p => .tuple [encR p.1, encN p.2]) (nL acc) : Mx Unit (Oc D Empty)) = Kr.pv (.nx (nL (acc ++ stw T t (one u)))) := fun T => by
    induction T with
    | nil => intro t acc _ _ _ _; simp [stw]
    | cons r T ih =>
      intro t acc ho hri hlen ht
      cases t with
      | nil => simp at ht
      | cons a t =>
        rw [List.length_cons] at hlen
        have hr := ho r List.mem_cons_self
        have hh := hri.head
        have g0 : getI (encR r) 0 = some (.int (r.lo : Nat)) := rfl
        have g1 : getI (encR r) 1 = some (.int (r.hi : Nat)) := rfl
        have e : l__law_work_0 (netD n rs) (nL s) (.int (u : Nat)) (.tuple [encR r, encN a]) (nL acc) = Kr.pv (.nx (nL (acc ++ [a + one u r.lo - one u r.hi]))) := by
          unfold l__law_work_0
          have val : (iteM (tsM (cmpM .eq (ixM (Kr.pv (encR r)) (Kr.pv (.int 0))) (Kr.pv (.int (u : Nat))))) (opM 0 .add (Kr.pv (encN a)) (Kr.pv (.int 1))) (iteM (tsM (cmpM .eq (ixM (Kr.pv (encR r)) (Kr.pv (.int 1))) (Kr.pv (.int (u : Nat))))) (opM 0 .sub (Kr.pv (encN a)) (Kr.pv (.int 1))) (Kr.pv (encN a))) : Mx Unit D) = Kr.pv (.int ((a + one u r.lo - one u r.hi : Nat) : Nat)) := by
            unfold encN
            rw [ixM_pv, g0, oM_sm, cmpM_pv, c_eqI, oM_sm, bd_pv_, tsM_b, dec_nat, ixM_pv, g1, oM_sm, cmpM_pv, c_eqI, oM_sm, bd_pv_, tsM_b, dec_nat, opM_pv, bin_ii, iop_add, Option.map_some, dep_00, oM_sm, opM_pv, bin_ii, iop_sub, Option.map_some, dep_00, oM_sm]
            unfold one at hh ⊢
            by_cases q : r.lo = u
            · rw [decide_eq_true q, iteM_t, if_pos q, if_neg (by omega)]
              congr 2
            · rw [decide_eq_false q, iteM_f, if_neg q]
              by_cases q2 : r.hi = u
              · rw [decide_eq_true q2, iteM_t, if_pos q2]
                rw [if_neg q, if_pos q2] at hh
                congr 2
                omega
              · rw [decide_eq_false q2, iteM_f, if_neg q2]
                congr 2
          rw [un2_, val, appM_l (by rw [List.length_map]; exact Nat.lt_of_lt_of_le (show acc.length < 2000 by omega) (sz (by omega))), nxM_]
          congr 2
          show PyData.list (List.map encN acc ++ [encN _]) = PyData.list (List.map encN (acc ++ [_]))
          rw [List.map_append]; rfl
        rw [List.zip_cons_cons, List.map_cons, forG_cons, e, bd_pv_]
        show (forG _ _ (nL _) : Mx Unit (Oc D Empty)) = _
        rw [ih t _ (fun q hq => ho q (List.mem_cons_of_mem _ hq)) hri.tail (by rw [List.length_append, List.length_singleton]; omega) (by simpa using ht), List.append_assoc]
        rfl
  have e := all rs s [] (fun r hr => (g.ok r hr).1) hi (by simp; omega) h.len
  rw [lst0, bd_pv_, ixM_pv, gt2_1, oM_sm, zpI_l, zip_map2, forM_]
  show runM (sqO (forG (l__law_work_0 (netD n rs) (nL s) (.int (u : Nat))) _ (nL [])) _) = _
  rw [e, sqO_n, rtM_, runM_r, List.nil_append]
theorem e_lwork_x {n : Nat} {rs : List Road} {s : List Nat} {x : Nat → Nat} (g : GN n rs) (h : GS rs s) (hi : RI rs s x) {u : Nat} (hc : canB rs (stw rs s x) u = true) : F__law_work [netD n rs, nL (stw rs s x), .int (u : Nat)] = .ok (nL (stw rs s (Kt.bump x u))) := by
  rw [e_lwork g (stw_gs h hi) hc, stw_stw hi fun v => bump_one]
end Kz

set_option Elab.async false
set_option linter.all false
set_option maxRecDepth 100000
set_option maxHeartbeats 1000000
namespace Kz
open PySem PySem.Spec PyProof.Rows L2 Kr Kt
/-! ### all standings that come (k29) -/
def encL (t : List Nat) : D := .list (t.map encN)
abbrev fL (E : List (List Nat)) : D := .list (E.map encL)
def code : List Road → List Nat → Nat
  | r :: rs, a :: s => a + (r.many + 1) * code rs s
  | _, _ => 0
def bx : List Road → Nat
  | [] => 1
  | r :: rs => (r.many + 1) * bx rs
theorem code_lt : ∀ {rs : List Road} {s : List Nat}, GS rs s → code rs s < bx rs
  | [], s, h => by cases s <;> simp [code, bx]
  | _ :: _, [], h => by have := h.len; simp at this
  | r :: rs, a :: s, h => by
    have h1 := code_lt h.tail
    have h2 := h.head
    rw [code, bx]
    have : (r.many + 1) * (code rs s + 1) ≤ (r.many + 1) * bx rs := Nat.mul_le_mul_left _ h1
    rw [Nat.mul_add] at this
    omega
theorem code_inj : ∀ {rs : List Road} {s t : List Nat}, GS rs s → GS rs t → code rs s = code rs t → s = t
  | [], s, t, h, h2, _ => by
    have a := h.len; have b := h2.len
    simp at a b
    rw [a, b]
  | _ :: _, [], _, h, _, _ => by have := h.len; simp at this
  | _ :: _, _ :: _, [], _, h, _ => by have := h.len; simp at this
  | r :: rs, a :: s, b :: t, h, h2, e => by
    have q1 := h.head
    have q2 := h2.head
    rw [code, code] at e
    have m1 : (a + (r.many + 1) * code rs s) % (r.many + 1) = a := by rw [Nat.add_mul_mod_self_left, Nat.mod_eq_of_lt (by omega)]
    have m2 : (b + (r.many + 1) * code rs t) % (r.many + 1) = b := by rw [Nat.add_mul_mod_self_left, Nat.mod_eq_of_lt (by omega)]
    rw [e, m2] at m1
    subst m1
    have : (r.many + 1) * code rs s = (r.many + 1) * code rs t := by omega
    rw [code_inj h.tail h2.tail (Nat.eq_of_mul_eq_mul_left (by omega) this)]
theorem box_len {rs : List Road} {E : List (List Nat)} (nd : E.Nodup) (h : ∀ t ∈ E, GS rs t) : E.length ≤ bx rs := by
  have := nodup_short (bx rs) (E.map (code rs)) (by
    unfold List.Nodup
    rw [List.pairwise_map]
    refine nd.imp_of_mem fun {a b} ha hb ne e => ne (code_inj (h a ha) (h b hb) e)) fun x hx => by
      obtain ⟨t, ht, rfl⟩ := List.mem_map.mp hx
      exact code_lt (h t ht)
  rwa [List.length_map] at this
theorem bx_le {K : Nat} : ∀ {rs : List Road}, (∀ r ∈ rs, r.many ≤ K) → bx rs ≤ (K + 1) ^ rs.length
  | [], _ => by simp [bx]
  | r :: rs, h => by
    rw [bx, List.length_cons, Nat.pow_succ, Nat.mul_comm]
    exact Nat.mul_le_mul (bx_le fun q hq => h q (List.mem_cons_of_mem _ hq)) (by have := h r List.mem_cons_self; omega)
theorem eqvAll_N : ∀ a b : List Nat, PyData.eqvAll (a.map encN) (b.map encN) = decide (a = b)
  | [], [] => rfl
  | [], _ :: _ => rfl
  | _ :: _, [] => rfl
  | x :: a, y :: b => by
    rw [List.map_cons, List.map_cons, PyData.eqvAll, eqvAll_N a b]
    show ((x : Int) == (y : Int) && decide (a = b)) = _
    rw [Bool.beq_eq_decide_eq, dec_nat]
    by_cases h1 : x = y <;> by_cases h2 : a = b <;> simp [h1, h2]
theorem eqv_L (a b : List Nat) : PyData.eqv (encL a) (encL b) = decide (a = b) := by
  unfold encL
  rw [PyData.eqv, eqvAll_N]
theorem inD_L (t : List Nat) : ∀ E : List (List Nat), inD (encL t) (E.map encL) = decide (t ∈ E)
  | [] => rfl
  | a :: E => by
    have ih := inD_L t E
    show (PyData.eqv (encL a) (encL t) || inD (encL t) (E.map encL)) = _
    rw [ih, eqv_L]
    by_cases q : a = t
    · subst q; simp
    · have q' : ¬ t = a := fun z => q z.symm
      simp [q, q']
theorem shaped_fL (E : List (List Nat)) : SeqAt.shaped (fL E) = true := by
  have h0 : ∀ t : List Nat, PyData.canLay0 (encL t) = true ∧ (encL t).depth = 1 := fun t => by
    have h1 : PyData.canLayAll0 (t.map encN) = true := by
      induction t with
      | nil => rfl
      | cons x l ih => rw [List.map_cons, PyData.canLayAll0, ih]; rfl
    have h2 : PyData.depthAll (t.map encN) = 0 := by
      clear h1
      induction t with
      | nil => rfl
      | cons x l ih => rw [List.map_cons, PyData.depthAll, ih]; rfl
    unfold encL
    rw [PyData.canLay0, PyData.depth, h1, h2]
    exact ⟨rfl, rfl⟩
  have h1 : PyData.canLayAll0 (E.map encL) = true := by
    induction E with
    | nil => rfl
    | cons x l ih => rw [List.map_cons, PyData.canLayAll0, ih, (h0 x).1]; rfl
  have h2 : PyData.depthAll (E.map encL) ≤ 1 := by
    clear h1
    induction E with
    | nil => exact Nat.zero_le _
    | cons x l ih =>
      rw [List.map_cons, PyData.depthAll, (h0 x).2]
      omega
  unfold SeqAt.shaped
  rw [PyData.canLay0, PyData.depth, h1]
  simp only [Bool.true_and, decide_eq_true_eq]
  omega
theorem c_notinL (t : List Nat) (E : List (List Nat)) : cmpop .notin (nL t) (fL E) = some (!decide (t ∈ E)) := by
  show ((if SeqAt.shaped (nL t) && SeqAt.shaped (fL E) then some (inD (encL t) (E.map encL)) else none)).map (fun b => !b) = _
  rw [shaped_nL, shaped_fL, inD_L]
  rfl
theorem whlG_inv {ρ γ : Type} {c : ρ → Mx Unit Bool} {f : ρ → Mx Unit (Oc ρ ρ)} (I : ρ → Prop) (μ : ρ → Nat) (P : ρ → Prop) (st : ∀ r, I r → (c r = Kr.pv false ∧ P r) ∨ (c r = Kr.pv true ∧ ∃ r', f r = Kr.pv (.nx r') ∧ I r' ∧ μ r' < μ r)) : ∀ (n : Nat) (r : ρ), I r → μ r < n → ∃ r', (whlG c f n r : Mx Unit (Oc ρ γ)) = Kr.pv (.nx r') ∧ P r'
  | 0, _, _, h => absurd h (Nat.not_lt_zero _)
  | n + 1, r, hI, hm => by
    rw [whlG]
    rcases st r hI with ⟨e, p⟩ | ⟨e, r', e2, i2, m2⟩
    · rw [e, bd_pv_, if_neg Bool.false_ne_true]
      exact ⟨r, rfl, p⟩
    · rw [e, bd_pv_, if_pos rfl, e2, bd_pv_]
      exact whlG_inv I μ P st n r' i2 (by omega)
/-- a standing that comes -/
def Cmg (rs : List Road) (s t : List Nat) : Prop := ∃ x, Rch (kw rs s) (fun a => a ∈ ([] : List Nat)) x ∧ t = stw rs s x
theorem Cmg.gs {n : Nat} {rs : List Road} {s t : List Nat} (g : GN n rs) (h : GS rs s) (c : Cmg rs s t) : GS rs t := by
  obtain ⟨x, r, rfl⟩ := c
  exact stw_gs h (rch_ri g h r)
theorem Cmg.step {n : Nat} {rs : List Road} {s t : List Nat} (g : GN n rs) (h : GS rs s) (c : Cmg rs s t) {v : Nat} (hc : canB rs t v = true) : Cmg rs s (stw rs t (one v)) := by
  obtain ⟨x, r, rfl⟩ := c
  have hi := rch_ri g h r
  exact ⟨Kt.bump x v, .step r (by simp) ((canB_stw h hi).mp hc), stw_stw hi fun v => bump_one⟩
theorem all_in {n : Nat} {rs : List Road} {s t : List Nat} (g : GN n rs) (h : GS rs s) (ht : Cmg rs s t) (st : D) (i : Nat) : ∀ (H : List Nat) (E : List (List Nat)), (∀ t ∈ E, Cmg rs s t) → E.Nodup → E[i]? = some t → E.length + H.length ≤ 100000 →
    ∃ E', (forG (l__law_all_0 (netD n rs) st (.int (i : Nat))) (H.map encN) (fL E) : Mx Unit (Oc D (D × D))) = Kr.pv (.nx (fL E')) ∧ E <+: E' ∧ (∀ t ∈ E', Cmg rs s t) ∧ E'.Nodup ∧ (∀ v ∈ H, canB rs t v = true → stw rs t (one v) ∈ E')
  | [], E, h1, h2, _, _ => ⟨E, rfl, List.prefix_refl _, h1, h2, fun v hv => by cases hv⟩
  | v :: H, E, h1, h2, hi, hl => by
    rw [List.length_cons] at hl
    have gs := ht.gs g h
    have gi : getI (fL E) (i : Int) = some (nL t) := get_nat? (by rw [List.getElem?_map, hi]; rfl)
    have step : l__law_all_0 (netD n rs) st (.int (i : Nat)) (encN v) (fL E) = Kr.pv (.nx (fL (if canB rs t v = true then (if stw rs t (one v) ∈ E then E else E ++ [stw rs t (one v)]) else E))) := by
      unfold l__law_all_0
      unfold encN
      rw [ixM_pv, gi, oM_sm, call3, e_lcan g gs, lf_ok, tsM_b]
      cases q : canB rs t v with
      | false => rw [iteM_f, if_neg Bool.false_ne_true, nxM_]
      | true =>
        rw [iteM_t, if_pos rfl, call3, e_lwork g gs q, lf_ok, bd_pv_, cmpM_pv, c_notinL, oM_sm, bd_pv_, tsM_b]
        by_cases z : stw rs t (one v) ∈ E
        · rw [decide_eq_true z, Bool.not_true, iteM_f, if_pos z, nxM_]
        · rw [decide_eq_false z, Bool.not_false, iteM_t, if_neg z, appM_l (by rw [List.length_map]; exact Nat.lt_of_lt_of_le (show E.length < 100000 by omega) (sz (by omega))), nxM_]
          congr 2
          show PyData.list (List.map encL E ++ [encL _]) = PyData.list (List.map encL (E ++ [_]))
          rw [List.map_append]; rfl
    obtain ⟨E1, hE1⟩ : ∃ E1, E1 = if canB rs t v = true then (if stw rs t (one v) ∈ E then E else E ++ [stw rs t (one v)]) else E := ⟨_, rfl⟩
    rw [← hE1] at step
    have pre : E <+: E1 := by
      rw [hE1]
      split
      · split
        · exact List.prefix_refl _
        · exact List.prefix_append _ _
      · exact List.prefix_refl _
    have a1 : ∀ t ∈ E1, Cmg rs s t := fun a ha => by
      rw [hE1] at ha
      split at ha
      · rename_i q
        split at ha
        · exact h1 a ha
        · rcases List.mem_append.mp ha with ha | ha
          · exact h1 a ha
          · rw [List.mem_singleton] at ha; subst ha; exact ht.step g h q
      · exact h1 a ha
    have a2 : E1.Nodup := by
      rw [hE1]
      split
      · split
        · exact h2
        · rename_i z
          rw [List.nodup_append]
          refine ⟨h2, by simp, fun a ha b hb e => ?_⟩
          rw [List.mem_singleton] at hb
          subst hb e
          exact z ha
      · exact h2
    have l1 : E1.length ≤ E.length + 1 := by
      rw [hE1]
      split
      · split <;> simp
      · simp
    have i1 : E1[i]? = some t := by
      obtain ⟨F, rfl⟩ := pre
      rw [List.getElem?_append_left (List.getElem?_eq_some_iff.mp hi).1]
      exact hi
    obtain ⟨E2, e, p2, b1, b2, b3⟩ := all_in g h ht st i H E1 a1 a2 i1 (by omega)
    refine ⟨E2, ?_, pre.trans p2, b1, b2, fun u hu hc => ?_⟩
    · rw [List.map_cons, forG_cons, step, bd_pv_]
      exact e
    · rcases List.mem_cons.mp hu with rfl | hu
      · refine p2.subset ?_
        rw [hE1, if_pos hc]
        split
        · assumption
        · exact List.mem_append_right _ List.mem_cons_self
      · exact b3 u hu hc
theorem stw_congr : ∀ {rs : List Road} {s : List Nat} {x y : Nat → Nat}, (∀ r ∈ rs, x r.lo = y r.lo ∧ x r.hi = y r.hi) → stw rs s x = stw rs s y
  | [], s, _, _, _ => by cases s <;> rfl
  | _ :: _, [], _, _, _ => rfl
  | r :: rs, a :: s, x, y, h => by
    rw [stw, stw, stw_congr fun q hq => h q (List.mem_cons_of_mem _ hq), (h r List.mem_cons_self).1, (h r List.mem_cons_self).2]
theorem f_lall {n : Nat} {rs : List Road} {s : List Nat} (g : GN n rs) (h : GS rs s) (hb : bx rs ≤ 50000) : ∃ E : List (List Nat), F__law_all [netD n rs, nL s] = .ok (fL E) ∧ (∀ t, t ∈ E ↔ Cmg rs s t) ∧ E.length ≤ bx rs := by
  suffices ∃ E : List (List Nat), runM (q__law_all (netD n rs) (nL s)) = .ok (fL E) ∧ (∀ t, t ∈ E ↔ Cmg rs s t) ∧ E.length ≤ bx rs from this
  have ht := g.top
  unfold q__law_all
  have e0 : getI (netD n rs) 0 = some (.int (n : Nat)) := rfl
  have c0 : Cmg rs s s := ⟨fun _ => 0, .zero, (stw_zero h.len fun _ _ => rfl).symm⟩
  obtain ⟨r', e, E, eE, q⟩ := whlG_inv (γ := Empty) (c := c__law_all_1 (netD n rs) (nL s)) (f := l__law_all_1 (netD n rs) (nL s))
    (fun r => ∃ (E : List (List Nat)) (i : Nat), r = (fL E, .int (i : Nat)) ∧ E.Nodup ∧ (∀ t ∈ E, Cmg rs s t) ∧ s ∈ E ∧ i ≤ E.length ∧ ∀ j t, j < i → E[j]? = some t → ∀ v, v < n → canB rs t v = true → stw rs t (one v) ∈ E)
    (fun r => bx rs - (match r.2 with | .int i => i.toNat | _ => 0))
    (fun r => ∃ E : List (List Nat), r.1 = fL E ∧ (∀ t, t ∈ E ↔ Cmg rs s t) ∧ E.length ≤ bx rs)
    (fun r hI => by
      obtain ⟨E, i, rfl, nd, al, hs, hi, cl⟩ := hI
      have lb := box_len nd fun t ht => (al t ht).gs g h
      have cc : c__law_all_1 (netD n rs) (nL s) (fL E, .int (i : Nat)) = Kr.pv (decide (i < E.length)) := by
        unfold c__law_all_1
        simp only
        rw [b1M_pv, b1_lenl, List.length_map, dep_00, oM_sm, cmpM_pv, c_ltI, oM_sm, bd_pv_, tsM_b]
        congr 1
        by_cases q : i < E.length
        · rw [decide_eq_true q, decide_eq_true (by omega)]
        · rw [decide_eq_false q, decide_eq_false (by omega)]
      rw [cc]
      by_cases q : i < E.length
      · refine .inr ⟨by rw [decide_eq_true q], ?_⟩
        have hti : E[i]? = some E[i] := List.getElem?_eq_getElem q
        obtain ⟨E', e, p, a1, a2, a3⟩ := all_in g h (al _ (List.getElem_mem q)) (nL s) i (List.range n) E al nd hti (by rw [List.length_range]; omega)
        have lb' := box_len a2 fun t ht => (a1 t ht).gs g h
        refine ⟨(fL E', .int ((i + 1 : Nat) : Nat)), ?_, ⟨E', i + 1, rfl, a2, a1, p.subset hs, ?_, fun j t hj hjt v hv hc => ?_⟩, ?_⟩
        · unfold l__law_all_1
          simp only
          have rm : rangeD 0 n = (List.range n).map encN := by
            unfold rangeD encN
            simp
          rw [ixM_pv, e0, oM_sm, rg1_pv (by omega), Int.toNat_natCast, rm, forM_, e, sqO_n, opM_pv, bin_ii, iop_add, Option.map_some, dep_00, oM_sm, bd_pv_, nxM_]
          rfl
        · have := p.length_le; omega
        · rcases Nat.lt_or_ge j i with z | z
          · refine p.subset (cl j t z ?_ v hv hc)
            obtain ⟨F, rfl⟩ := p
            rw [List.getElem?_append_left (by omega)] at hjt
            exact hjt
          · obtain rfl : j = i := by omega
            obtain ⟨F, rfl⟩ := p
            rw [List.getElem?_append_left q, hti] at hjt
            cases hjt
            exact a3 v (List.mem_range.mpr hv) hc
        · simp only
          rw [Int.toNat_natCast, Int.toNat_natCast]
          omega
      · refine .inl ⟨by rw [decide_eq_false q], E, rfl, fun t => ⟨al t, fun c => ?_⟩, lb⟩
        obtain ⟨x, r, rfl⟩ := c
        induction r with
        | zero => rw [stw_zero h.len fun _ _ => rfl]; exact hs
        | step r h1 h2 ih =>
          rename_i x v
          have hri := rch_ri g h r
          by_cases hv : v < n
          · obtain ⟨j, hj⟩ := List.getElem?_of_mem ih
            have hjl := (List.getElem?_eq_some_iff.mp hj).1
            have := cl j _ (by omega) hj v hv ((canB_stw h hri).mpr h2)
            rw [stw_stw hri (z := Kt.bump x v) fun v => bump_one] at this
            exact this
          · rw [stw_congr (y := x) fun r hr => ?_]
            · exact ih
            · have := g.ok r hr
              rw [bump_one, bump_one]
              unfold one
              rw [if_neg (by omega), if_neg (by omega)]
              exact ⟨by omega, by omega⟩)
    1000000 (fL [s], .int 0) ⟨[s], 0, rfl, by simp, fun t ht => by rw [List.mem_singleton] at ht; subst ht; exact c0, by simp, by simp, fun j t hj => absurd hj (Nat.not_lt_zero _)⟩ (by simp only; omega)
  refine ⟨E, ?_, q⟩
  rw [lst1, bd_pv_, bd_pv_]
  rw [show fL [s] = .list [nL s] from rfl] at e
  rw [e, sqO_n, eE, rtM_, runM_r]
end Kz

set_option Elab.async false
set_option linter.all false
set_option maxRecDepth 100000
set_option maxHeartbeats 1000000
namespace Kz
open PySem PySem.Spec PyProof.Rows L2 Kr Kt
/-! ### fewest and most keys (k29) -/
theorem f_chkhouse {n : Nat} {rs : List Road} {u : Nat} (hu : u < n) : F_check_house [netD n rs, .int (u : Nat)] = .ok .none := by
  show runM (q_check_house (netD n rs) (.int (u : Nat))) = _
  unfold q_check_house
  rw [call2, f_ishouse, lf_ok, decide_eq_true (show (0 : Int) ≤ (u : Nat) by omega), decide_eq_true (show ((u : Nat) : Int) ≤ (n : Int) - 1 by omega)]
  show runM (iteM (tsM (Kr.notM (Kr.pv (.bool true)))) _ _) = _
  rw [notM_b, Bool.not_true, tsM_b, iteM_f, nxM_, runM_n]
theorem f_chkends {n : Nat} {rs : List Road} {s : List Nat} (g : GN n rs) (h : GS rs s) {u v : Nat} (hj : Joins rs u v) : F_check_ends [netD n rs, nL s, .int (u : Nat), .int (v : Nat)] = .ok .none := by
  have hl := hj.lt g
  have p : F_check_pair [netD n rs, nL s, .int (u : Nat), .int (v : Nat)] = .ok .none := by
    show runM (q_check_pair (netD n rs) (nL s) (.int (u : Nat)) (.int (v : Nat))) = _
    unfold q_check_pair
    rw [call2, f_chks g h, lf_ok, bd_pv_, call2, f_chkhouse hl.1, lf_ok, bd_pv_, call2, f_chkhouse hl.2.1, lf_ok, bd_pv_, nxM_, runM_n]
  show runM (q_check_ends (netD n rs) (nL s) (.int (u : Nat)) (.int (v : Nat))) = _
  unfold q_check_ends
  rw [call4, p, lf_ok, bd_pv_, call2, f_nbs g, lf_ok, cmpM_pv, c_notinN, oM_sm, bd_pv_, tsM_b, decide_eq_true (joins_nbs.mpr hj), Bool.not_true, iteM_f, nxM_, runM_n]
theorem gh_one {n u : Nat} (hn : n ≤ 12) (hu : u < n) : GH n [u] := ⟨fun x hx => by rw [List.mem_singleton] at hx; omega, by simp, by simp⟩
theorem f_leadsover {n : Nat} {rs : List Road} {s : List Nat} (g : GN n rs) (h : GS rs s) (h32 : rs.length < 32) {u : Nat} (hu : u < n) : F_leads_over [netD n rs, nL s, nL (stkP rs s), .int (u : Nat)] = .ok (fD (cnts n rs s [u])) := by
  show runM (q_leads_over (netD n rs) (nL s) (nL (stkP rs s)) (.int (u : Nat))) = _
  unfold q_leads_over
  have h1 := stkP_len (s := s) g
  have e : usN (stkP rs s ++ [u]) = ends rs s [u] := srt_ext usN_srt usN_srt fun x => by
    rw [mem_usN, List.mem_append, mem_ends h, mem_stkP h]
    exact Or.comm
  have l1 : (lstM [Kr.pv (.int (u : Nat))] : Mx Unit D) = Kr.pv (nL [u]) := lst1
  rw [l1, opM_pv, add_nL (by simp; omega), dep_ok (show 0 ≤ 1 by omega), oM_sm, b1M_pv, sset_nat (by simp; omega), dep_ok (show 0 ≤ 1 by omega), oM_sm, call3, e, f_lens g h h32 (ends_lt g h (gh_one g.top hu)), lf_ok, rtM_, runM_r]
  rfl
/-- by how much the second is ahead of the first at the most -/
def ldn (n : Nat) (rs : List Road) (s : List Nat) (u v : Nat) : Nat := (at_ (cnts n rs s [u]) v).getD 0
theorem ldn_some {n : Nat} {rs : List Road} {s : List Nat} (g : GN n rs) (h : GS rs s) {u v : Nat} (hj : Joins rs u v) : at_ (cnts n rs s [u]) v = some (ldn n rs s u v) := by
  have hl := hj.lt g
  obtain ⟨c, hc⟩ := (kw_some h.len).mpr hj
  have D := cnts_d g h (gh_one g.top hl.1) v
  unfold ldn
  cases q : at_ (cnts n rs s [u]) v with
  | some d => rfl
  | none =>
    rw [q] at D
    exact absurd (Wl.step (Wl.base (.inl (by simp))) hc) (D _ _)
theorem f_leadin {n : Nat} {rs : List Road} {s : List Nat} (g : GN n rs) (h : GS rs s) (h32 : rs.length < 32) {u v : Nat} (hj : Joins rs u v) : F_lead_in [netD n rs, nL s, .int (u : Nat), .int (v : Nat)] = .ok (.int (ldn n rs s u v : Nat)) := by
  have hl := hj.lt g
  show runM (q_lead_in (netD n rs) (nL s) (.int (u : Nat)) (.int (v : Nat))) = _
  unfold q_lead_in
  rw [cmpM_pv, c_eqI, oM_sm, bd_pv_, tsM_b, dec_nat, decide_eq_false hl.2.2, iteM_f, call2, f_stuck g h h32, lf_ok, call4, f_leadsover g h h32 hl.1, lf_ok, ixM_pv, get_f (by rw [cnts_len]; exact hl.2.1), oM_sm, ldn_some g h hj, rtM_, runM_r]
  rfl
theorem f_fewest {n : Nat} {rs : List Road} {s : List Nat} (g : GN n rs) (h : GS rs s) (h32 : rs.length < 32) {u v k : Nat} (hk : kw rs s u v = some k) : F_fewest_keys [netD n rs, nL s, .int (u : Nat), .int (v : Nat)] = .ok (.int ((k : Int) - (ldn n rs s u v : Nat))) := by
  have hj := (kw_some h.len).mp ⟨k, hk⟩
  have hl := hj.lt g
  show runM (q_fewest_keys (netD n rs) (nL s) (.int (u : Nat)) (.int (v : Nat))) = _
  unfold q_fewest_keys
  rw [call4, f_chkends g h hj, lf_ok, bd_pv_, call4, f_keys g h hl.1 hl.2.1 hk, lf_ok, call4, f_leadin g h h32 hj, lf_ok, opM_pv, bin_ii, iop_sub, Option.map_some, dep_00, oM_sm, rtM_, runM_r]
theorem f_most {n : Nat} {rs : List Road} {s : List Nat} (g : GN n rs) (h : GS rs s) (h32 : rs.length < 32) {u v k : Nat} (hk : kw rs s u v = some k) : F_most_keys [netD n rs, nL s, .int (u : Nat), .int (v : Nat)] = .ok (.int ((k : Int) + (ldn n rs s v u : Nat))) := by
  have hj := (kw_some h.len).mp ⟨k, hk⟩
  have hl := hj.lt g
  show runM (q_most_keys (netD n rs) (nL s) (.int (u : Nat)) (.int (v : Nat))) = _
  unfold q_most_keys
  rw [call4, f_chkends g h hj, lf_ok, bd_pv_, call4, f_keys g h hl.1 hl.2.1 hk, lf_ok, call4, f_leadin g h h32 hj.symm, lf_ok, opM_pv, bin_ii, iop_add, Option.map_some, dep_00, oM_sm, rtM_, runM_r]
/-- the keys at an end in all standings that come -/
theorem ends_come {n : Nat} {rs : List Road} {s : List Nat} (g : GN n rs) (h : GS rs s) {u v k : Nat} (hk : kw rs s u v = some k) :
    (∀ x, Rch (kw rs s) (fun a => a ∈ ([] : List Nat)) x → x v ≤ ldn n rs s u v + x u) ∧ ∃ x, Rch (kw rs s) (fun a => a ∈ ([] : List Nat)) x ∧ x v = ldn n rs s u v + x u := by
  have hj := (kw_some h.len).mp ⟨k, hk⟩
  have hl := hj.lt g
  have gh := gh_one g.top hl.1
  have e := ldn_some g h hj
  have D := cnts_d g h gh v
  rw [e] at D
  refine ⟨fun x r => ?_, ?_⟩
  · obtain ⟨p, hp⟩ := D.1
    have hp' : Wl (fun s' => s' = u ∨ Zr (kw rs s) s') (kw rs s) (v :: p) (ldn n rs s u v) := by
      have : (fun x => x ∈ [u] ∨ Zr (kw rs s) x) = fun s' => s' = u ∨ Zr (kw rs s) s' := by
        funext x
        rw [List.mem_singleton]
      rw [this] at hp
      exact hp
    exact chip_lead (kw_ne g h) r hp' _ _ rfl
  · have go := gone_ok (M := 10 * n) (x := fun _ => 0) g h gh .zero fun v d e => cnts_le g h gh (fun r hr => (g.ok r hr).1) (fun r hr => (g.ok r hr).2.2.2) e
    refine ⟨_, go.rch.weak (fun v hv => by cases hv), ?_⟩
    rw [go.fin v _ hl.2.1 e, go.rch.rest u (by simp)]
    omega
theorem min_nL : ∀ {L : List Nat}, L ≠ [] → ∃ m, b1v .minl (nL L) = some (0, .int (m : Nat)) ∧ m ∈ L ∧ ∀ y ∈ L, m ≤ y
  | [], h => absurd rfl h
  | a :: l, _ => by
    have key : ∀ (l : List Nat) (a : Nat), ∃ m : Nat, (l.map fun x : Nat => (x : Int)).foldl min (a : Int) = (m : Int) ∧ (m = a ∨ m ∈ l) ∧ m ≤ a ∧ ∀ y ∈ l, m ≤ y := fun l => by
      induction l with
      | nil => intro a; exact ⟨a, rfl, .inl rfl, Nat.le_refl _, fun y hy => by cases hy⟩
      | cons b l ih =>
        intro a
        obtain ⟨m, e, h1, h2, h3⟩ := ih (min a b)
        refine ⟨m, ?_, ?_, by omega, fun y hy => ?_⟩
        · rw [List.map_cons, List.foldl_cons, ← e]
          congr 1
          omega
        · rcases h1 with h1 | h1
          · rcases Nat.le_total a b with q | q
            · exact .inl (by omega)
            · exact .inr (by rw [show m = b by omega]; exact List.mem_cons_self)
          · exact .inr (List.mem_cons_of_mem _ h1)
        · rcases List.mem_cons.mp hy with rfl | hy
          · omega
          · exact h3 y hy
    obtain ⟨m, e, h1, h2, h3⟩ := key l a
    refine ⟨m, ?_, List.mem_cons.mpr h1, fun y hy => ?_⟩
    · show (intsD ((a :: l).map encN)).bind _ = _
      rw [intsD_nat]
      show some (0, PyData.int ((l.map fun x : Nat => (x : Int)).foldl min (a : Int))) = _
      rw [e]
    · rcases List.mem_cons.mp hy with rfl | hy
      · exact h2
      · exact h3 y hy
theorem maxl_nL : ∀ {L : List Nat}, L ≠ [] → ∃ m, b1v .maxl (nL L) = some (0, .int (m : Nat)) ∧ m ∈ L ∧ ∀ y ∈ L, y ≤ m
  | [], h => absurd rfl h
  | a :: l, _ => by
    refine ⟨_, max_nL a l, ?_, fun y hy => ?_⟩
    · have : ∀ (l : List Nat) (a : Nat), l.foldl max a ∈ a :: l := fun l => by
        induction l with
        | nil => intro a; simp
        | cons b l ih =>
          intro a
          rw [List.foldl_cons]
          have := ih (max a b)
          rcases List.mem_cons.mp this with q | q
          · rw [q]
            rcases Nat.le_total a b with z | z
            · rw [Nat.max_eq_right z]; simp
            · rw [Nat.max_eq_left z]; simp
          · exact List.mem_cons_of_mem _ (List.mem_cons_of_mem _ q)
      exact this l a
    · rcases List.mem_cons.mp hy with rfl | hy
      · exact le_fmax.1
      · exact le_fmax.2 y hy
theorem due_at {n : Nat} {rs : List Road} {s : List Nat} {E : List (List Nat)} (g : GN n rs) (h : GS rs s) (hE : ∀ t, t ∈ E ↔ Cmg rs s t) {u v k : Nat} (hk : kw rs s u v = some k) (y : Nat) :
    y ∈ E.map (fun t => key rs t u v) ↔ ∃ x, Rch (kw rs s) (fun a => a ∈ ([] : List Nat)) x ∧ y = k + x u - x v := by
  rw [List.mem_map]
  constructor
  · rintro ⟨t, ht, rfl⟩
    obtain ⟨x, r, rfl⟩ := (hE t).mp ht
    exact ⟨x, r, by unfold key; rw [kw_stw h (rch_ri g h r), hk]; rfl⟩
  · rintro ⟨x, r, rfl⟩
    refine ⟨_, (hE _).mpr ⟨x, r, rfl⟩, ?_⟩
    unfold key
    rw [kw_stw h (rch_ri g h r), hk]
    rfl
end Kz

set_option Elab.async false
set_option linter.all false
set_option maxRecDepth 100000
set_option maxHeartbeats 1000000
namespace Kz
open PySem PySem.Spec PyProof.Rows L2 Kr Kt
/-! ### the law's look at keys (k29) -/
theorem kept2_ok {n : Nat} {rs : List Road} {s : List Nat} (g : GN n rs) (h : GS rs s) (h32 : rs.length < 32) : Ok true 30000 8 (.list [netD n rs, nL s]) := by
  have k := kept_ok g h h32 (gh_one g.top g.pos)
  obtain ⟨h1, h2⟩ := k.of_list (k := 7)
  refine (Ok.list (b := true) (n := 2) (w := 10000) (k := 7) (fun x hx => h2 x ?_) (by simp)).mono (by omega) (by omega)
  simp only [List.mem_cons, List.not_mem_nil, or_false] at hx ⊢
  rcases hx with h | h
  · exact .inl h
  · exact .inr (.inl h)
theorem ok_small {i : Int} (h : -1000 ≤ i ∧ i ≤ 1000) : Ok false 1 1 (.int i) := ok_int (Nat.le_trans (show i.natAbs ≤ 1000 by omega) (by decide +kernel))
theorem ldn_le {n : Nat} {rs : List Road} {s : List Nat} (g : GN n rs) (h : GS rs s) {u v : Nat} (hj : Joins rs u v) : ldn n rs s u v ≤ 120 := by
  have hl := hj.lt g
  have := cnts_le g h (gh_one g.top hl.1) (fun r hr => (g.ok r hr).1) (fun r hr => (g.ok r hr).2.2.2) (ldn_some g h hj)
  have := g.top
  omega
theorem e_right0 {n : Nat} {rs : List Road} {s : List Nat} {E : List (List Nat)} (g : GN n rs) (h : GS rs s) (h32 : rs.length < 32) (hE : ∀ t, t ∈ E ↔ Cmg rs s t) (hl : E.length ≤ 1000) (lo hi : D) {u v k k' many : Nat} (hk : kw rs s u v = some k) (hk' : kw rs s v u = some k') (hm : k + k' = many) (s0 : D) :
    (l__law_right_0 (netD n rs) (nL s) (.str (PyData.list [netD n rs, nL s]).shown) (fL E) lo hi (.int (many : Nat)) (.tuple [.int (u : Nat), .int (v : Nat)]) () : Mx D (Oc Unit Unit)) = Kr.pv (.nx ()) := by
  have hj := (kw_some h.len).mp ⟨k, hk⟩
  have hjl := hj.lt g
  have c0 : Cmg rs s s := ⟨fun _ => 0, .zero, (stw_zero h.len fun _ _ => rfl).symm⟩
  obtain ⟨L, hL⟩ : ∃ L, L = E.map fun t => key rs t u v := ⟨_, rfl⟩
  have Ll : L.length ≤ 1000 := by rw [hL, List.length_map]; exact hl
  have Lne : L ≠ [] := fun e => by
    have : key rs s u v ∈ L := by rw [hL]; exact List.mem_map.mpr ⟨s, (hE s).mpr c0, rfl⟩
    rw [e] at this
    cases this
  have dat := due_at g h hE hk
  rw [← hL] at dat
  have due : (compM (Kr.pv (E.map encL)) (fun r6 => allM (callM F__law_k [Kr.pv (netD n rs), Kr.pv r6, Kr.pv (.int (u : Nat)), Kr.pv (.int (v : Nat))])) : Mx D D) = Kr.pv (nL L) := by
    rw [compM_map (T := List Nat) (enc := encL) (fun t => encN (key rs t u v)) (fun t ht => ?_) (sz (by omega))]
    · rw [hL]
      show _ = Kr.pv (PyData.list (List.map encN (List.map _ _)))
      rw [List.map_map]
      rfl
    · have gt := ((hE t).mp ht).gs g h
      obtain ⟨c, hc⟩ := (kw_some gt.len).mpr hj
      have fk := e_lk g gt u v
      rw [hc] at fk
      unfold key
      show allM (callM F__law_k [Kr.pv (netD n rs), Kr.pv (nL t), Kr.pv (.int (u : Nat)), Kr.pv (.int (v : Nat))]) = _
      rw [call4, fk, lf_ok, allM_, hc]
      rfl
  obtain ⟨d1, hd1⟩ : ∃ d, d = ldn n rs s u v := ⟨_, rfl⟩
  obtain ⟨d2, hd2⟩ : ∃ d, d = ldn n rs s v u := ⟨_, rfl⟩
  have ec1 := ends_come g h hk
  have ec2 := ends_come g h hk'
  rw [← hd1] at ec1
  rw [← hd2] at ec2
  obtain ⟨up1, x1, r1, e1⟩ := ec1
  obtain ⟨up2, x2, r2, e2⟩ := ec2
  have inv : ∀ {x}, Rch (kw rs s) (fun a => a ∈ ([] : List Nat)) x → x v ≤ k + x u := fun r => r.inv (kw_ne g h) u v k hk
  have i1 := inv r1
  have b1 : d1 ≤ 120 := by rw [hd1]; exact ldn_le g h hj
  have b2 : d2 ≤ 120 := by rw [hd2]; exact ldn_le g h hj.symm
  have kb : k ≤ 10 := kw_le h (fun r hr => (g.ok r hr).1) (fun r hr => (g.ok r hr).2.2.2) _ _ _ hk
  obtain ⟨m, hm1, hm2, hm3⟩ := min_nL Lne
  obtain ⟨M, hM1, hM2, hM3⟩ := maxl_nL Lne
  have em : (m : Int) = (k : Int) - d1 := by
    obtain ⟨x, r, ex⟩ := (dat m).mp hm2
    have q1 := up1 x r
    have q2 := inv r
    have q3 := hm3 _ ((dat (k + x1 u - x1 v)).mpr ⟨x1, r1, rfl⟩)
    omega
  have eM : (M : Int) = (k : Int) + d2 := by
    obtain ⟨x, r, ex⟩ := (dat M).mp hM2
    have q1 := up2 x r
    have q2 := inv r
    have q3 := hM3 _ ((dat (k + x2 u - x2 v)).mpr ⟨x2, r2, rfl⟩)
    omega
  have bt : ∀ y : Nat, m ≤ y → y ≤ M → y ∈ L := fun y h1 h2 => by
    have : ∃ z, Rch (kw rs s) (fun a => a ∈ ([] : List Nat)) z ∧ (z u : Int) - z v = (y : Int) - k := by
      rcases Nat.lt_or_ge y k with q | q
      · exact r1.between _ (.inr (by omega))
      · exact r2.between _ (.inl (by omega))
    obtain ⟨z, rz, ez⟩ := this
    exact (dat y).mpr ⟨z, rz, by omega⟩
  have f1 := f_fewest g h h32 hk
  have f2 := f_most g h h32 hk
  have f3 := f_most g h h32 hk'
  rw [← hd1] at f1 f3
  rw [← hd2] at f2
  have tO : Ok true 100 8 (.list [.int ((k : Int) - d1), .int ((k : Int) + d2)]) := by
    refine ((Ok.list (b := false) (n := 2) (w := 1) (k := 1) (fun x hx => ?_) (by simp)).mono (by omega) (by omega)).up (b := true)
    simp only [List.mem_cons, List.not_mem_nil, or_false] at hx
    rcases hx with rfl | rfl
    · exact ok_small (by omega)
    · exact ok_small (by omega)
  have tr := b1_repr (tO.repr (by omega) (by omega))
  have ts := leaf_sOk _ tO.leaf
  have kO := kept2_ok g h h32
  have kr := b1_repr (kO.repr (by omega) (by omega))
  have ks := leaf_sOk _ kO.leaf
  have g0 : getI (.list [.int ((k : Int) - d1), .int ((k : Int) + d2)]) 0 = some (.int ((k : Int) - d1)) := rfl
  have rg : (rg2 (Kr.pv (.int (m : Nat))) (Kr.pv (.int ((M : Int) + 1))) : Mx D (List D)) = Kr.pv (rangeD (m : Nat) ((M : Int) + 1 - (m : Nat)).toNat) := rg2_pv (by omega) (by omega)
  have cr : (compM (Kr.pv (rangeD (m : Nat) ((M : Int) + 1 - (m : Nat)).toNat)) (fun r7 => keepM (cmpM .notin (Kr.pv r7) (Kr.pv (nL L))) (Kr.pv r7)) : Mx D D) = Kr.pv (.list []) := by
    have e : rangeD ((m : Nat) : Int) ((M : Int) + 1 - (m : Nat)).toNat = (List.range ((M : Int) + 1 - (m : Nat)).toNat).map fun j => encN (m + j) := by
      unfold rangeD encN
      simp
    rw [e]
    refine compM_none (enc := fun j => encN (m + j)) (fun j hj => ?_) (sz (by rw [List.length_range]; omega))
    rw [List.mem_range] at hj
    unfold encN
    rw [cmpM_pv, c_notinN, oM_sm, bd_pv_, keepM_b, decide_eq_true (bt (m + j) (by omega) (by omega))]
    rfl
  unfold l__law_right_0
  rw [un2_, seqI_l, due, bd_pv_, call4, f1, lf_ok, call4, f2, lf_ok, lst2, bd_pv_, b1M_pv, tr, dep_00, oM_sm, b1M_pv, hm1, dep_00, oM_sm, b1M_pv, hM1, dep_00, oM_sm, em, eM, lst2, b1M_pv, tr, dep_00, oM_sm, cmpM_pv, c_neS _ ts, oM_sm, bd_pv_, orM_f]
  rw [← em, ← eM, opM_pv, bin_ii, iop_add, Option.map_some, dep_00, oM_sm, rg, cr, lst0, cmpM_pv, c_nn, oM_sm, bd_pv_, tsM_b, iteM_f]
  rw [ixM_pv, gl2_0, oM_sm, call4, f3, lf_ok, opM_pv, bin_ii, iop_add, Option.map_some, dep_00, oM_sm, cmpM_pv, c_neI, oM_sm, bd_pv_, decide_eq_true (by omega), Bool.not_true, orM_f, lst2, b1M_pv, kr, dep_00, oM_sm, cmpM_pv, c_neS _ ks, oM_sm, bd_pv_, tsM_b, iteM_f, nxM_]
theorem e_right1 {n : Nat} {rs : List Road} {s : List Nat} {E : List (List Nat)} (g : GN n rs) (h : GS rs s) (h32 : rs.length < 32) (hE : ∀ t, t ∈ E ↔ Cmg rs s t) (hl : E.length ≤ 1000) {r : Road} (hr : r ∈ rs) (s0 : D) :
    (l__law_right_1 (netD n rs) (nL s) (.str (PyData.list [netD n rs, nL s]).shown) (fL E) (encR r) () : Mx D (Oc Unit Unit)) = Kr.pv (.nx ()) := by
  obtain ⟨i, hi⟩ := List.getElem?_of_mem hr
  have hil := (List.getElem?_eq_some_iff.mp hi).1
  have hlen := h.len
  have hz : (s[i], r) ∈ s.zip rs := List.mem_of_getElem? (i := i) (by rw [List.getElem?_zip_eq_some]; exact ⟨List.getElem?_eq_getElem (by omega), hi⟩)
  obtain ⟨k1, k2⟩ := kw_road g.srt (fun r hr => (g.ok r hr).1) _ hz
  have hx := h.ok _ hz
  simp only at k1 k2 hx
  unfold l__law_right_1 encR
  rw [un3_, tup2, tup2, lst2, seqI_l, forM_, forG_cons, e_right0 g h h32 hE hl _ _ k1 k2 (by omega) s0, bd_pv_]
  show sqO (forG _ [_] ()) _ = _
  rw [forG_cons, e_right0 g h h32 hE hl _ _ k2 k1 (by omega) s0, bd_pv_]
  show sqO (forG _ [] ()) _ = _
  rw [forG_nil, sqO_n, nxM_]
end Kz

set_option Elab.async false
set_option linter.all false
set_option maxRecDepth 100000
set_option maxHeartbeats 1000000
namespace Kz
open PySem PySem.Spec PyProof.Rows L2 Kr Kt
/-! ### nets drawn pair by pair, the law of k29 -/
structure NI (n ke lo hi len : Nat) (rs : List Road) : Prop where
  ok : ∀ r ∈ rs, r.lo < r.hi ∧ r.hi < n ∧ 1 ≤ r.many ∧ r.many ≤ ke
  srt : rs.Pairwise Road.lt
  bd : ∀ r ∈ rs, r.lo < lo ∨ r.lo = lo ∧ r.hi < hi
  len : rs.length ≤ len
theorem NI.up {n ke lo hi len lo' hi' len' : Nat} {rs : List Road} (h : NI n ke lo hi len rs) (hb : lo < lo' ∨ lo = lo' ∧ hi ≤ hi') (hl : len ≤ len') : NI n ke lo' hi' len' rs :=
  ⟨h.ok, h.srt, fun r hr => by have := h.bd r hr; omega, Nat.le_trans h.len hl⟩
theorem NI.app {n ke lo hi len k : Nat} {rs : List Road} (h : NI n ke lo hi len rs) (h1 : lo < hi) (h2 : hi < n) (hk : 1 ≤ k ∧ k ≤ ke) : NI n ke lo (hi + 1) (len + 1) (rs ++ [⟨lo, hi, k⟩]) := by
  refine ⟨fun r hr => ?_, ?_, fun r hr => ?_, by have := h.len; simp; omega⟩
  · rcases List.mem_append.mp hr with hr | hr
    · exact h.ok r hr
    · rw [List.mem_singleton] at hr; subst hr; exact ⟨h1, h2, hk⟩
  · rw [List.pairwise_append]
    refine ⟨h.srt, by simp, fun a ha b hb => ?_⟩
    rw [List.mem_singleton] at hb
    subst hb
    exact h.bd a ha
  · rcases List.mem_append.mp hr with hr | hr
    · have := h.bd r hr; omega
    · rw [List.mem_singleton] at hr; subst hr; exact .inr ⟨rfl, Nat.lt_succ_self _⟩
def tri (n : Nat) : Nat → Nat
  | 0 => 0
  | j + 1 => tri n j + (n - 1 - j)
theorem e_net0 {m n ke lo hi len : Nat} {g : D} {rs : List Road} (mo ho : D) (h : NI n ke lo hi len rs) (h1 : lo < hi) (h2 : hi < n) (hk : 0 < ke ∧ ke ≤ 10) (hl : len ≤ 1000) (hg : G (m + 2) g) :
    Kr.Tp (fun o g' => ∃ rs' : List Road, o = .nx (.list (rs'.map encR)) ∧ NI n ke lo (hi + 1) (len + 1) rs' ∧ G m g') (l__law_net_0 mo (.int (ke : Nat)) ho (.int (lo : Nat)) (.int (hi : Nat)) (.list (rs.map encR))) g := by
  have hlen := h.len
  unfold l__law_net_0
  refine Tp.ite ?_
  unfold tsM cmpM
  simp -implicitDefEqProofs only [bd_pv_, bd_bd]
  refine Tp.rndb rndOk (m := m + 1) hg (by omega) fun r g1 a1 a2 hg1 => ?_
  rw [c_gtI, oM_sm, bd_pv_]
  refine tru_b (fun z => ?_) fun z => ?_
  · unfold appM tupM opM
    simp -implicitDefEqProofs only [bd_pv_, bd_bd, sqM_c, sqM_nil]
    refine Tp.rndb rndOk (m := m) hg1 (by omega) fun k g2 b1 b2 hg2 => ?_
    rw [bin_ii, iop_add, Option.map_some, dep_00, oM_sm, bd_pv_, if_pos (ten_le (by simp)), bd_pv_, if_pos (by rw [List.length_map]; exact Nat.lt_of_lt_of_le (show rs.length < 2000 by omega) (sz (by omega)))]
    refine Tp.nxrt ⟨rs ++ [⟨lo, hi, (1 + k).toNat⟩], ?_, h.app h1 h2 (by omega), hg2⟩
    rw [List.map_append]
    show _ = Oc.nx (PyData.list (_ ++ [PyData.tuple [.int (lo : Nat), .int (hi : Nat), .int (((1 + k).toNat : Nat) : Int)]]))
    rw [Int.toNat_of_nonneg (by omega)]
  · exact Tp.nxrt ⟨rs, rfl, h.up (.inr ⟨rfl, by omega⟩) (by omega), hg1.mono (by omega)⟩
theorem e_net1 {m n ke lo len : Nat} {g : D} {rs : List Road} (mo : D) (h : NI n ke lo (lo + 1) len rs) (h1 : lo < n) (hn : n ≤ 12) (hk : 0 < ke ∧ ke ≤ 10) (hl : len ≤ 500) (hg : G (m + 24) g) :
    Kr.Tp (fun o g' => ∃ rs' : List Road, o = .nx (.list (rs'.map encR)) ∧ NI n ke (lo + 1) (lo + 2) (len + (n - 1 - lo)) rs' ∧ G m g') (l__law_net_1 mo (.int (ke : Nat)) (.int (n : Nat)) (.int (lo : Nat)) (.list (rs.map encR))) g := by
  unfold l__law_net_1
  rw [opM_pv, bin_ii, iop_add, Option.map_some, dep_00, oM_sm, rg2_pv (by omega) (by omega), forM_, show ((n : Int) - ((lo : Nat) + 1)).toNat = n - 1 - lo by omega]
  refine Kr.Tp.sqO ((Tp.range (n := n - 1 - lo) (fun j r g => ∃ rs : List Road, r = .list (rs.map encR) ∧ NI n ke lo (lo + 1 + j) (len + j) rs ∧ G (m + 2 * (n - 1 - lo - j)) g) ⟨rs, rfl, h, hg.mono (by omega)⟩ fun j r g hj hI => ?_).imp fun o s' q => ?_)
  · obtain ⟨rs, rfl, q1, q2⟩ := hI
    have e : ((lo : Nat) : Int) + 1 + (j : Nat) = ((lo + 1 + j : Nat) : Int) := by omega
    rw [e]
    refine (e_net0 (m := m + 2 * (n - 1 - lo - (j + 1))) _ _ q1 (by omega) (by omega) hk (by omega) (q2.mono (by omega))).imp fun o s' w => ?_
    obtain ⟨P', rfl, w1, w2⟩ := w
    exact ⟨_, rfl, P', rfl, w1.up (.inr ⟨rfl, by omega⟩) (by omega), w2⟩
  · obtain ⟨r, rfl, rs', rfl, q1, q2⟩ := q
    refine ⟨_, rfl, ?_⟩
    exact Tp.nxrt ⟨rs', rfl, q1.up (.inl (by omega)) (Nat.le_refl _), q2.mono (by omega)⟩
theorem tri_le {n : Nat} : ∀ j, tri n j ≤ 12 * j ∨ 12 < n
  | 0 => .inl (Nat.le_refl _)
  | j + 1 => by
    rcases tri_le (n := n) j with h | h
    · by_cases q : 12 < n
      · exact .inr q
      · left; rw [tri]; omega
    · exact .inr h
theorem e_lnet {m mo ke : Nat} {g : D} (hmo : 0 < mo ∧ mo ≤ 12) (hke : 0 < ke ∧ ke ≤ 10) (hg : G (m + 300) g) :
    ∃ d g', F__law_net g [.int (mo : Nat), .int (ke : Nat)] = .ok (d, g') ∧ ∃ n rs, d = netD n rs ∧ 0 < n ∧ n ≤ mo ∧ NI n ke n (n + 1) (tri n n) rs ∧ G m g' := by
  show ∃ d g', runG (q__law_net (.int (mo : Nat)) (.int (ke : Nat))) g = _ ∧ _
  refine runG_of ?_
  unfold q__law_net opM
  simp -implicitDefEqProofs only [bd_pv_, bd_bd]
  refine Tp.rndb rndOk (m := m + 299) hg (by omega) fun r g1 r1 r2 hg1 => ?_
  obtain ⟨n, hn⟩ : ∃ n : Nat, (n : Int) = 1 + r := ⟨(1 + r).toNat, Int.toNat_of_nonneg (by omega)⟩
  rw [bin_ii, iop_add, Option.map_some, dep_00, oM_sm, bd_pv_, ← hn, lst0, bd_pv_, rg1_pv (by omega), Int.toNat_natCast, forM_]
  refine Kr.Tp.sqO ((Tp.range (n := n) (fun j r g => ∃ rs : List Road, r = .list (rs.map encR) ∧ NI n ke j (j + 1) (tri n j) rs ∧ G (m + 24 * (n - j)) g) ⟨[], rfl, ⟨fun p hp => by (cases hp), List.Pairwise.nil, fun p hp => by (cases hp), Nat.zero_le _⟩, hg1.mono (by omega)⟩ fun j r g hj hI => ?_).imp fun o s' q => ?_)
  · obtain ⟨rs, rfl, q1, q2⟩ := hI
    rw [show (0 : Int) + (j : Nat) = (j : Nat) by omega]
    have := tri_le (n := n) j
    refine (e_net1 (m := m + 24 * (n - (j + 1))) _ q1 hj (by omega) hke (by omega) (q2.mono (by omega))).imp fun o s' w => ?_
    obtain ⟨P', rfl, w1, w2⟩ := w
    exact ⟨_, rfl, P', rfl, w1, w2⟩
  · obtain ⟨r0, rfl, rs, rfl, q1, q2⟩ := q
    refine ⟨_, rfl, ?_⟩
    rw [tup2, rtM_]
    exact .pv ⟨_, rfl, n, rs, rfl, by omega, by omega, q1, q2.mono (by omega)⟩
theorem NI.gn {n ke lo hi len : Nat} {rs : List Road} (h : NI n ke lo hi len rs) (h0 : 0 < n) (hn : n ≤ 12) (hk : ke ≤ 10) (hl : len ≤ 66) : GN n rs :=
  ⟨h0, hn, fun r hr => by have := h.ok r hr; omega, h.srt, by have := h.len; omega⟩
theorem e_drawn {m : Nat} {g : D} (hg : G (m + 366) g) :
    ∃ d g', F__law_drawn g [.int 4, .int 2] = .ok (d, g') ∧ ∃ n rs s, d = .list [netD n rs, nL s] ∧ GN n rs ∧ GS rs s ∧ rs.length ≤ 6 ∧ (∀ r ∈ rs, r.many ≤ 2) ∧ G m g' := by
  show ∃ d g', runG (q__law_drawn (.int 4) (.int 2)) g = _ ∧ _
  refine runG_of ?_
  unfold q__law_drawn
  refine Tp.callGb (Q := fun d g' => ∃ n rs, d = netD n rs ∧ 0 < n ∧ n ≤ 4 ∧ NI n 2 n (n + 1) (tri n n) rs ∧ G (m + 66) g') rfl (e_lnet (m := m + 66) (mo := 4) (ke := 2) (by omega) (by omega) hg) fun d g1 hq => ?_
  obtain ⟨n, rs, rfl, n0, n4, ni, hg1⟩ := hq
  have t6 : tri n n ≤ 6 := by
    have : n = 1 ∨ n = 2 ∨ n = 3 ∨ n = 4 := by omega
    rcases this with rfl | rfl | rfl | rfl <;> decide
  have hl := ni.len
  have gn := ni.gn n0 (by omega) (by omega) (by omega)
  unfold rtM lstM
  simp -implicitDefEqProofs only [bd_pv_, bd_bd, sqM_c, sqM_nil]
  refine Tp.callGb (Q := fun d g' => ∃ s, d = nL s ∧ GS rs s ∧ G m g') rfl (f_lstanding (m := m) gn (hg1.mono (by omega))) fun d g2 hq => ?_
  obtain ⟨s, rfl, gs, hg2⟩ := hq
  rw [if_pos (ten_le (by simp)), bd_pv_]
  exact .pv ⟨_, rfl, n, rs, s, rfl, gn, gs, by omega, fun r hr => (ni.ok r hr).2.2.2, hg2⟩
theorem e_right {m : Nat} {g : D} (hg : G (m + 366) g) : ∃ d g', F__law_right g [] = .ok (d, g') ∧ d = .bool true ∧ G m g' := by
  show ∃ d g', runG q__law_right g = _ ∧ _
  refine runG_of ?_
  unfold q__law_right
  refine Tp.callGb (Q := fun d g' => ∃ n rs s, d = .list [netD n rs, nL s] ∧ GN n rs ∧ GS rs s ∧ rs.length ≤ 6 ∧ (∀ r ∈ rs, r.many ≤ 2) ∧ G m g') rfl (e_drawn hg) fun d g1 hq => ?_
  obtain ⟨n, rs, s, rfl, gn, gs, l6, m2, hg1⟩ := hq
  have h32 : rs.length < 32 := by omega
  have kO := kept2_ok gn gs h32
  have kr := b1_repr (kO.repr (by omega) (by omega))
  have ks := leaf_sOk _ kO.leaf
  have hb : bx rs ≤ 729 := by
    have h1 := bx_le m2
    have h2 : (2 + 1) ^ rs.length ≤ 3 ^ 6 := Nat.pow_le_pow_right (by omega) l6
    omega
  obtain ⟨E, eE, hE, lE⟩ := f_lall gn gs (by omega)
  have lp : (forG (l__law_right_1 (netD n rs) (nL s) (.str (PyData.list [netD n rs, nL s]).shown) (fL E)) (rs.map encR) () : Mx D (Oc Unit Empty)) = Kr.pv (.nx ()) := by
    have := forG_fold (σ := D) (γ := Empty) (f := l__law_right_1 (netD n rs) (nL s) (.str (PyData.list [netD n rs, nL s]).shown) (fL E)) (enc := encR) (fun _ _ => ()) rs () fun r hr _ => e_right1 gn gs h32 hE (by omega) hr .none
    exact this
  rw [un2_l, lst2, b1M_pv, kr, dep_00, oM_sm, bd_pv_, call2, eE, lf_ok, bd_pv_, ixM_pv, gt2_1, oM_sm, seqI_l, forM_, lp, sqO_n, cmpM_pv, c_eqS _ ks, oM_sm, bd_pv_, rtM_]
  exact .pv ⟨_, rfl, rfl, hg1⟩
theorem callT0 {σ : Type} {F : D → List D → Rs (D × D)} {g d g' : D} (e : F g [] = .ok (d, g')) : (callT F (Kr.pv g) [] : Mx σ D) = Kr.pv d := by
  funext s
  unfold callT
  rw [bd_pv_, sqM_nil, bd_pv_, e]
  rfl
theorem f_law (ns : List Int) : F_law [iL ns] = .ok (.bool true) := by
  show runM (q_law (iL ns)) = _
  have l0 : ∀ j : Nat, j < 2 → l_law_0 (iL ns) (.int ((0 : Int) + (j : Nat))) () = (Kr.pv (.nx ()) : Mx Unit (Oc Unit Unit)) := fun j hj => by
    obtain ⟨g0, e0, hg0⟩ := f_generator ns j 400 (by omega)
    obtain ⟨d, g', e1, rfl, _⟩ := e_right (m := 0) (hg0.mono (by omega))
    unfold l_law_0
    rw [show (0 : Int) + (j : Nat) = (j : Nat) by omega, call2, e0, lf_ok, callT0 e1, notM_b, tsM_b]
    rfl
  have lp : (forG (l_law_0 (iL ns)) (rangeD 0 2) () : Mx Unit (Oc Unit Empty)) = Kr.pv (.nx ()) := by
    have := forG_fold (σ := Unit) (γ := Empty) (f := l_law_0 (iL ns)) (enc := fun j : Nat => PyData.int ((0 : Int) + (j : Nat))) (fun _ _ => ()) (List.range 2) () fun j hj _ => l0 j (List.mem_range.mp hj)
    exact this
  unfold q_law
  rw [rg1_pv (by omega), forM_, show ((2 : Int)).toNat = 2 from rfl, lp, sqO_n]
  kernel_rfl
theorem ev (ns : List Int) (h : ns.length ≤ 63) : callK Ir.T 40 "law" [.list (ns.map PyData.int)] = some (.ret 0 (.bool true) []) := (sh_law 29 (iL ns)).ret (f_law ns)
end Kz

set_option Elab.async false
set_option linter.all false
set_option maxRecDepth 100000
set_option maxHeartbeats 0
namespace Hd
open PySem PySem.Spec PyProof.Rows L2
def top (i : Nat) : Stmt := PySem.Challenge.pw_keyroads_k29_whole_keys_at_an_end.main.body.getD i (.Pass ⟨0, 0, 0, 0⟩)
def dd (x : Str) (n : Str) (i : Nat) : He.DefD := ⟨(x, none), n, n, defArgs (top i), defBody (top i), defScope (top i), [], []⟩
def fn : List He.DefD := [dd "is_whole" "is_whole" 6, dd "is_between" "is_between" 7, dd "is_road" "is_road" 8, dd "is_net" "is_net" 9, dd "check_net" "check_net" 10, dd "is_standing" "is_standing" 11, dd "check_standing" "check_standing" 12, dd "is_house" "is_house" 13, dd "check_house" "check_house" 14, dd "neighbours_of" "neighbours_of" 15, dd "directions_of" "directions_of" 16, dd "road_at" "road_at" 17, dd "keys_in" "keys_in" 18, dd "lengths_from" "lengths_from" 19, dd "free_ahead" "free_ahead" 20, dd "stuck_houses" "stuck_houses" 21, dd "leads_over" "leads_over" 23, dd "lead_in" "lead_in" 24, dd "check_pair" "check_pair" 25, dd "check_ends" "check_ends" 26, dd "fewest_keys" "fewest_keys" 27, dd "most_keys" "most_keys" 28, dd "_law_hash" "_law_hash" 30, dd "_law_random" "_law_random" 31, dd "_law_cell" "_law_cell" 32, dd "_law_generator" "_law_generator" 33, dd "_law_net" "_law_net" 34, dd "_law_standing" "_law_standing" 35, dd "_law_drawn" "_law_drawn" 36, dd "_law_k" "_law_k" 37, dd "_law_mates" "_law_mates" 38, dd "_law_can" "_law_can" 39, dd "_law_work" "_law_work" 40, dd "_law_ways" "_law_ways" 41, dd "_law_length" "_law_length" 42, dd "_law_least" "_law_least" 43, dd "_law_rings" "_law_rings" 44, dd "_law_stuck" "_law_stuck" 45, dd "_law_lead" "_law_lead" 46, dd "_law_all" "_law_all" 47, dd "_law_right" "_law_right" 48, dd "law" "law" 49]
def fa : List He.Fa := [.glo "is_whole", .glo "is_between", .glo "is_road", .glo "is_net", .glo "check_net", .glo "is_standing", .glo "check_standing", .glo "is_house", .glo "check_house", .glo "neighbours_of", .glo "directions_of", .glo "road_at", .glo "keys_in", .glo "lengths_from", .glo "free_ahead", .glo "stuck_houses", .glo "leads_over", .glo "lead_in", .glo "check_pair", .glo "check_ends", .glo "fewest_keys", .glo "most_keys", .glo "_law_hash", .glo "_law_random", .glo "_law_cell", .glo "_law_generator", .glo "_law_net", .glo "_law_standing", .glo "_law_drawn", .glo "_law_k", .glo "_law_mates", .glo "_law_can", .glo "_law_work", .glo "_law_ways", .glo "_law_length", .glo "_law_least", .glo "_law_rings", .glo "_law_stuck", .glo "_law_lead", .glo "_law_all", .glo "_law_right", .glo "law", .free "range", .free "len", .free "sorted", .free "sum", .free "max", .free "min", .free "isinstance", .free "int", .free "list", .free "set", .free "repr", .free "zip", .free "tuple", .free "bool"]
abbrev R : PySem.W.OpenRow := PySem.W.OpenLaw.row PySem.Challenge.rw_keyroads_k29_whole_keys_at_an_end
abbrev hk : PySem.W.Hook := Kr.hookK 4 fa fn
def ob (s : PySem.W.SharedT) : Bool × He.AlD := Kr.obsK 4 fa fn (HandSHeadRun.getT s)
theorem ob_eq (s : PySem.W.SharedT) : ob s = hk.obs s.abs := Kr.obsK_eq (HandSHeadRun.getT_eq s)
def loose : List PySem.Str := ([("__name__" : PySem.Str), ("RoadError" : PySem.Str), ("InvalidNet" : PySem.Str), ("InvalidStanding" : PySem.Str), ("InvalidHouse" : PySem.Str), ("is_whole" : PySem.Str), ("is_between" : PySem.Str), ("is_road" : PySem.Str), ("is_net" : PySem.Str), ("check_net" : PySem.Str), ("is_standing" : PySem.Str), ("check_standing" : PySem.Str), ("is_house" : PySem.Str), ("check_house" : PySem.Str), ("neighbours_of" : PySem.Str), ("directions_of" : PySem.Str), ("road_at" : PySem.Str), ("keys_in" : PySem.Str), ("lengths_from" : PySem.Str), ("free_ahead" : PySem.Str), ("stuck_houses" : PySem.Str), ("leads_over" : PySem.Str), ("lead_in" : PySem.Str), ("check_pair" : PySem.Str), ("check_ends" : PySem.Str), ("fewest_keys" : PySem.Str), ("most_keys" : PySem.Str), ("_law_hash" : PySem.Str), ("_law_random" : PySem.Str), ("_law_cell" : PySem.Str), ("_law_generator" : PySem.Str), ("_law_net" : PySem.Str), ("_law_standing" : PySem.Str), ("_law_drawn" : PySem.Str), ("_law_k" : PySem.Str), ("_law_mates" : PySem.Str), ("_law_can" : PySem.Str), ("_law_work" : PySem.Str), ("_law_ways" : PySem.Str), ("_law_length" : PySem.Str)] : List PySem.Str) ++ ([("_law_least" : PySem.Str), ("_law_rings" : PySem.Str), ("_law_stuck" : PySem.Str), ("_law_lead" : PySem.Str), ("_law_all" : PySem.Str), ("_law_right" : PySem.Str)] : List PySem.Str)
theorem run (w : World) : HandSHeadRun.RunEq R (PySem.W.view R.prog [49]) hk ob 6000 loose w := by
  intro os
  kernel_rfl
end Hd

set_option Elab.async false
set_option linter.all false
set_option maxRecDepth 100000
set_option maxHeartbeats 0
namespace Rw
open PySem PySem.Spec PyProof.Rows L2 Kr
section
variable {K : PySem.W.Frag} {h : Heap} {mg : Str → Option Value}
theorem r_is_whole (c : He.SaysD Hd.fa Hd.fn K) (X : K.In h) (G : h.Ns mainGlobals mg) : RowOk Ir.T Ir.B Ir.KW K mg "is_whole" Ir.f_is_whole :=
  row_of c X G 0 0 (n := "is_whole") (params := defArgs (Hd.top 6)) (body := defBody (Hd.top 6)) (scope := defScope (Hd.top 6)) (N := [("value" : Str)]) (ps := [("value" : Str)]) rfl rfl
    (fun _ _ _ _ _ _ us hl => match us, hl with | [_], _ => rfl) (by decide +kernel) (by decide +kernel) rfl rfl rfl
    (fun e he => nomatch he)
theorem r_is_between (c : He.SaysD Hd.fa Hd.fn K) (X : K.In h) (G : h.Ns mainGlobals mg) : RowOk Ir.T Ir.B Ir.KW K mg "is_between" Ir.f_is_between :=
  row_of c X G 1 1 (n := "is_between") (params := defArgs (Hd.top 7)) (body := defBody (Hd.top 7)) (scope := defScope (Hd.top 7)) (N := [("value" : Str), ("low" : Str), ("high" : Str)]) (ps := [("value" : Str), ("low" : Str), ("high" : Str)]) rfl rfl
    (fun _ _ _ _ _ _ us hl => match us, hl with | [_, _, _], _ => rfl) (by decide +kernel) (by decide +kernel) rfl rfl rfl
    (fun e he => nomatch he)
theorem r_is_road (c : He.SaysD Hd.fa Hd.fn K) (X : K.In h) (G : h.Ns mainGlobals mg) : RowOk Ir.T Ir.B Ir.KW K mg "is_road" Ir.f_is_road :=
  row_of c X G 2 2 (n := "is_road") (params := defArgs (Hd.top 8)) (body := defBody (Hd.top 8)) (scope := defScope (Hd.top 8)) (N := [("houses" : Str), ("value" : Str)]) (ps := [("houses" : Str), ("value" : Str)]) rfl rfl
    (fun _ _ _ _ _ _ us hl => match us, hl with | [_, _], _ => rfl) (by decide +kernel) (by decide +kernel) rfl rfl rfl
    (fun e he => nomatch he)
theorem r_is_net (c : He.SaysD Hd.fa Hd.fn K) (X : K.In h) (G : h.Ns mainGlobals mg) : RowOk Ir.T Ir.B Ir.KW K mg "is_net" Ir.f_is_net :=
  row_of c X G 3 3 (n := "is_net") (params := defArgs (Hd.top 9)) (body := defBody (Hd.top 9)) (scope := defScope (Hd.top 9)) (N := [("value" : Str), ("houses" : Str), ("roads" : Str), ("road" : Str), ("at" : Str)]) (ps := [("value" : Str)]) rfl rfl
    (fun _ _ _ _ _ _ us hl => match us, hl with | [_], _ => rfl) (by decide +kernel) (by decide +kernel) rfl rfl rfl
    (fun e he => nomatch he)
theorem r_check_net (c : He.SaysD Hd.fa Hd.fn K) (X : K.In h) (G : h.Ns mainGlobals mg) : RowOk Ir.T Ir.B Ir.KW K mg "check_net" Ir.f_check_net :=
  row_of c X G 4 4 (n := "check_net") (params := defArgs (Hd.top 10)) (body := defBody (Hd.top 10)) (scope := defScope (Hd.top 10)) (N := [("net" : Str)]) (ps := [("net" : Str)]) rfl rfl
    (fun _ _ _ _ _ _ us hl => match us, hl with | [_], _ => rfl) (by decide +kernel) (by decide +kernel) rfl rfl rfl
    (fun e he => nomatch he)
theorem r_is_standing (c : He.SaysD Hd.fa Hd.fn K) (X : K.In h) (G : h.Ns mainGlobals mg) : RowOk Ir.T Ir.B Ir.KW K mg "is_standing" Ir.f_is_standing :=
  row_of c X G 5 5 (n := "is_standing") (params := defArgs (Hd.top 11)) (body := defBody (Hd.top 11)) (scope := defScope (Hd.top 11)) (N := [("net" : Str), ("value" : Str), ("item" : Str), ("road" : Str)]) (ps := [("net" : Str), ("value" : Str)]) rfl rfl
    (fun _ _ _ _ _ _ us hl => match us, hl with | [_, _], _ => rfl) (by decide +kernel) (by decide +kernel) rfl rfl rfl
    (fun e he => nomatch he)
theorem r_check_standing (c : He.SaysD Hd.fa Hd.fn K) (X : K.In h) (G : h.Ns mainGlobals mg) : RowOk Ir.T Ir.B Ir.KW K mg "check_standing" Ir.f_check_standing :=
  row_of c X G 6 6 (n := "check_standing") (params := defArgs (Hd.top 12)) (body := defBody (Hd.top 12)) (scope := defScope (Hd.top 12)) (N := [("net" : Str), ("standing" : Str)]) (ps := [("net" : Str), ("standing" : Str)]) rfl rfl
    (fun _ _ _ _ _ _ us hl => match us, hl with | [_, _], _ => rfl) (by decide +kernel) (by decide +kernel) rfl rfl rfl
    (fun e he => nomatch he)
theorem r_is_house (c : He.SaysD Hd.fa Hd.fn K) (X : K.In h) (G : h.Ns mainGlobals mg) : RowOk Ir.T Ir.B Ir.KW K mg "is_house" Ir.f_is_house :=
  row_of c X G 7 7 (n := "is_house") (params := defArgs (Hd.top 13)) (body := defBody (Hd.top 13)) (scope := defScope (Hd.top 13)) (N := [("net" : Str), ("value" : Str)]) (ps := [("net" : Str), ("value" : Str)]) rfl rfl
    (fun _ _ _ _ _ _ us hl => match us, hl with | [_, _], _ => rfl) (by decide +kernel) (by decide +kernel) rfl rfl rfl
    (fun e he => nomatch he)
theorem r_check_house (c : He.SaysD Hd.fa Hd.fn K) (X : K.In h) (G : h.Ns mainGlobals mg) : RowOk Ir.T Ir.B Ir.KW K mg "check_house" Ir.f_check_house :=
  row_of c X G 8 8 (n := "check_house") (params := defArgs (Hd.top 14)) (body := defBody (Hd.top 14)) (scope := defScope (Hd.top 14)) (N := [("net" : Str), ("house" : Str)]) (ps := [("net" : Str), ("house" : Str)]) rfl rfl
    (fun _ _ _ _ _ _ us hl => match us, hl with | [_, _], _ => rfl) (by decide +kernel) (by decide +kernel) rfl rfl rfl
    (fun e he => nomatch he)
theorem r_neighbours_of (c : He.SaysD Hd.fa Hd.fn K) (X : K.In h) (G : h.Ns mainGlobals mg) : RowOk Ir.T Ir.B Ir.KW K mg "neighbours_of" Ir.f_neighbours_of :=
  row_of c X G 9 9 (n := "neighbours_of") (params := defArgs (Hd.top 15)) (body := defBody (Hd.top 15)) (scope := defScope (Hd.top 15)) (N := [("net" : Str), ("house" : Str), ("found" : Str), ("low" : Str), ("high" : Str), ("many" : Str)]) (ps := [("net" : Str), ("house" : Str)]) rfl rfl
    (fun _ _ _ _ _ _ us hl => match us, hl with | [_, _], _ => rfl) (by decide +kernel) (by decide +kernel) rfl rfl rfl
    (fun e he => nomatch he)
theorem r_directions_of (c : He.SaysD Hd.fa Hd.fn K) (X : K.In h) (G : h.Ns mainGlobals mg) : RowOk Ir.T Ir.B Ir.KW K mg "directions_of" Ir.f_directions_of :=
  row_of c X G 10 10 (n := "directions_of") (params := defArgs (Hd.top 16)) (body := defBody (Hd.top 16)) (scope := defScope (Hd.top 16)) (N := [("net" : Str), ("low" : Str), ("high" : Str), ("many" : Str)]) (ps := [("net" : Str)]) rfl rfl
    (fun _ _ _ _ _ _ us hl => match us, hl with | [_], _ => rfl) (by decide +kernel) (by decide +kernel) rfl rfl rfl
    (fun e he => nomatch he)
theorem r_road_at (c : He.SaysD Hd.fa Hd.fn K) (X : K.In h) (G : h.Ns mainGlobals mg) : RowOk Ir.T Ir.B Ir.KW K mg "road_at" Ir.f_road_at :=
  row_of c X G 11 11 (n := "road_at") (params := defArgs (Hd.top 17)) (body := defBody (Hd.top 17)) (scope := defScope (Hd.top 17)) (N := [("net" : Str), ("one" : Str), ("other" : Str), ("road" : Str)]) (ps := [("net" : Str), ("one" : Str), ("other" : Str)]) rfl rfl
    (fun _ _ _ _ _ _ us hl => match us, hl with | [_, _, _], _ => rfl) (by decide +kernel) (by decide +kernel) rfl rfl rfl
    (fun e he => nomatch he)
theorem r_keys_in (c : He.SaysD Hd.fa Hd.fn K) (X : K.In h) (G : h.Ns mainGlobals mg) : RowOk Ir.T Ir.B Ir.KW K mg "keys_in" Ir.f_keys_in :=
  row_of c X G 12 12 (n := "keys_in") (params := defArgs (Hd.top 18)) (body := defBody (Hd.top 18)) (scope := defScope (Hd.top 18)) (N := [("net" : Str), ("standing" : Str), ("one" : Str), ("other" : Str), ("at" : Str)]) (ps := [("net" : Str), ("standing" : Str), ("one" : Str), ("other" : Str)]) rfl rfl
    (fun _ _ _ _ _ _ us hl => match us, hl with | [_, _, _, _], _ => rfl) (by decide +kernel) (by decide +kernel) rfl rfl rfl
    (fun e he => nomatch he)
theorem r_lengths_from (c : He.SaysD Hd.fa Hd.fn K) (X : K.In h) (G : h.Ns mainGlobals mg) : RowOk Ir.T Ir.B Ir.KW K mg "lengths_from" Ir.f_lengths_from :=
  row_of c X G 13 13 (n := "lengths_from") (params := defArgs (Hd.top 19)) (body := defBody (Hd.top 19)) (scope := defScope (Hd.top 19)) (N := [("net" : Str), ("standing" : Str), ("sources" : Str), ("found" : Str), ("turn" : Str), ("one" : Str), ("other" : Str), ("length" : Str), ("house" : Str)]) (ps := [("net" : Str), ("standing" : Str), ("sources" : Str)]) rfl rfl
    (fun _ _ _ _ _ _ us hl => match us, hl with | [_, _, _], _ => rfl) (by decide +kernel) (by decide +kernel) rfl rfl rfl
    (fun e he => nomatch he)
theorem r_free_ahead (c : He.SaysD Hd.fa Hd.fn K) (X : K.In h) (G : h.Ns mainGlobals mg) : RowOk Ir.T Ir.B Ir.KW K mg "free_ahead" Ir.f_free_ahead :=
  row_of c X G 14 14 (n := "free_ahead") (params := defArgs (Hd.top 20)) (body := defBody (Hd.top 20)) (scope := defScope (Hd.top 20)) (N := [("net" : Str), ("standing" : Str), ("houses" : Str), ("found" : Str), ("one" : Str), ("mate" : Str)]) (ps := [("net" : Str), ("standing" : Str), ("houses" : Str)]) rfl rfl
    (fun _ _ _ _ _ _ us hl => match us, hl with | [_, _, _], _ => rfl) (by decide +kernel) (by decide +kernel) rfl rfl rfl
    (fun e he => nomatch he)
theorem r_stuck_houses (c : He.SaysD Hd.fa Hd.fn K) (X : K.In h) (G : h.Ns mainGlobals mg) : RowOk Ir.T Ir.B Ir.KW K mg "stuck_houses" Ir.f_stuck_houses :=
  row_of c X G 15 15 (n := "stuck_houses") (params := defArgs (Hd.top 21)) (body := defBody (Hd.top 21)) (scope := defScope (Hd.top 21)) (N := [("net" : Str), ("standing" : Str), ("found" : Str), ("houses" : Str), ("house" : Str), ("reached" : Str), ("turn" : Str), ("low" : Str), ("high" : Str), ("many" : Str), ("mate" : Str)]) (ps := [("net" : Str), ("standing" : Str)]) rfl rfl
    (fun _ _ _ _ _ _ us hl => match us, hl with | [_, _], _ => rfl) (by decide +kernel) (by decide +kernel) rfl rfl rfl
    (fun e he => nomatch he)
theorem r_leads_over (c : He.SaysD Hd.fa Hd.fn K) (X : K.In h) (G : h.Ns mainGlobals mg) : RowOk Ir.T Ir.B Ir.KW K mg "leads_over" Ir.f_leads_over :=
  row_of c X G 16 16 (n := "leads_over") (params := defArgs (Hd.top 23)) (body := defBody (Hd.top 23)) (scope := defScope (Hd.top 23)) (N := [("net" : Str), ("standing" : Str), ("stuck" : Str), ("one" : Str)]) (ps := [("net" : Str), ("standing" : Str), ("stuck" : Str), ("one" : Str)]) rfl rfl
    (fun _ _ _ _ _ _ us hl => match us, hl with | [_, _, _, _], _ => rfl) (by decide +kernel) (by decide +kernel) rfl rfl rfl
    (fun e he => nomatch he)
theorem r_lead_in (c : He.SaysD Hd.fa Hd.fn K) (X : K.In h) (G : h.Ns mainGlobals mg) : RowOk Ir.T Ir.B Ir.KW K mg "lead_in" Ir.f_lead_in :=
  row_of c X G 17 17 (n := "lead_in") (params := defArgs (Hd.top 24)) (body := defBody (Hd.top 24)) (scope := defScope (Hd.top 24)) (N := [("net" : Str), ("standing" : Str), ("one" : Str), ("other" : Str)]) (ps := [("net" : Str), ("standing" : Str), ("one" : Str), ("other" : Str)]) rfl rfl
    (fun _ _ _ _ _ _ us hl => match us, hl with | [_, _, _, _], _ => rfl) (by decide +kernel) (by decide +kernel) rfl rfl rfl
    (fun e he => nomatch he)
theorem r_check_pair (c : He.SaysD Hd.fa Hd.fn K) (X : K.In h) (G : h.Ns mainGlobals mg) : RowOk Ir.T Ir.B Ir.KW K mg "check_pair" Ir.f_check_pair :=
  row_of c X G 18 18 (n := "check_pair") (params := defArgs (Hd.top 25)) (body := defBody (Hd.top 25)) (scope := defScope (Hd.top 25)) (N := [("net" : Str), ("standing" : Str), ("one" : Str), ("other" : Str)]) (ps := [("net" : Str), ("standing" : Str), ("one" : Str), ("other" : Str)]) rfl rfl
    (fun _ _ _ _ _ _ us hl => match us, hl with | [_, _, _, _], _ => rfl) (by decide +kernel) (by decide +kernel) rfl rfl rfl
    (fun e he => nomatch he)
theorem r_check_ends (c : He.SaysD Hd.fa Hd.fn K) (X : K.In h) (G : h.Ns mainGlobals mg) : RowOk Ir.T Ir.B Ir.KW K mg "check_ends" Ir.f_check_ends :=
  row_of c X G 19 19 (n := "check_ends") (params := defArgs (Hd.top 26)) (body := defBody (Hd.top 26)) (scope := defScope (Hd.top 26)) (N := [("net" : Str), ("standing" : Str), ("one" : Str), ("other" : Str)]) (ps := [("net" : Str), ("standing" : Str), ("one" : Str), ("other" : Str)]) rfl rfl
    (fun _ _ _ _ _ _ us hl => match us, hl with | [_, _, _, _], _ => rfl) (by decide +kernel) (by decide +kernel) rfl rfl rfl
    (fun e he => nomatch he)
theorem r_fewest_keys (c : He.SaysD Hd.fa Hd.fn K) (X : K.In h) (G : h.Ns mainGlobals mg) : RowOk Ir.T Ir.B Ir.KW K mg "fewest_keys" Ir.f_fewest_keys :=
  row_of c X G 20 20 (n := "fewest_keys") (params := defArgs (Hd.top 27)) (body := defBody (Hd.top 27)) (scope := defScope (Hd.top 27)) (N := [("net" : Str), ("standing" : Str), ("one" : Str), ("other" : Str)]) (ps := [("net" : Str), ("standing" : Str), ("one" : Str), ("other" : Str)]) rfl rfl
    (fun _ _ _ _ _ _ us hl => match us, hl with | [_, _, _, _], _ => rfl) (by decide +kernel) (by decide +kernel) rfl rfl rfl
    (fun e he => nomatch he)
theorem r_most_keys (c : He.SaysD Hd.fa Hd.fn K) (X : K.In h) (G : h.Ns mainGlobals mg) : RowOk Ir.T Ir.B Ir.KW K mg "most_keys" Ir.f_most_keys :=
  row_of c X G 21 21 (n := "most_keys") (params := defArgs (Hd.top 28)) (body := defBody (Hd.top 28)) (scope := defScope (Hd.top 28)) (N := [("net" : Str), ("standing" : Str), ("one" : Str), ("other" : Str)]) (ps := [("net" : Str), ("standing" : Str), ("one" : Str), ("other" : Str)]) rfl rfl
    (fun _ _ _ _ _ _ us hl => match us, hl with | [_, _, _, _], _ => rfl) (by decide +kernel) (by decide +kernel) rfl rfl rfl
    (fun e he => nomatch he)
theorem r__law_hash (c : He.SaysD Hd.fa Hd.fn K) (X : K.In h) (G : h.Ns mainGlobals mg) : RowOk Ir.T Ir.B Ir.KW K mg "_law_hash" Ir.f__law_hash :=
  row_of c X G 22 22 (n := "_law_hash") (params := defArgs (Hd.top 30)) (body := defBody (Hd.top 30)) (scope := defScope (Hd.top 30)) (N := [("_law_seed" : Str), ("_law_index" : Str), ("_law_mixed" : Str)]) (ps := [("_law_seed" : Str), ("_law_index" : Str)]) rfl rfl
    (fun _ _ _ _ _ _ us hl => match us, hl with | [_, _], _ => rfl) (by decide +kernel) (by decide +kernel) rfl rfl rfl
    (fun e he => nomatch he)
theorem r__law_random (c : He.SaysD Hd.fa Hd.fn K) (X : K.In h) (G : h.Ns mainGlobals mg) : RowOk Ir.T Ir.B Ir.KW K mg "_law_random" Ir.f__law_random :=
  row_of c X G 23 23 (n := "_law_random") (params := defArgs (Hd.top 31)) (body := defBody (Hd.top 31)) (scope := defScope (Hd.top 31)) (N := [("_law_generator_here" : Str), ("_law_bound" : Str), ("_law_drawn_here" : Str), ("_law_turn" : Str)]) (ps := [("_law_generator_here" : Str), ("_law_bound" : Str)]) rfl rfl
    (fun _ _ _ _ _ _ us hl => match us, hl with | [_, _], _ => rfl) (by decide +kernel) (by decide +kernel) rfl rfl rfl
    (fun e he => nomatch he)
theorem r__law_cell (c : He.SaysD Hd.fa Hd.fn K) (X : K.In h) (G : h.Ns mainGlobals mg) : RowOk Ir.T Ir.B Ir.KW K mg "_law_cell" Ir.f__law_cell :=
  row_of c X G 24 24 (n := "_law_cell") (params := defArgs (Hd.top 32)) (body := defBody (Hd.top 32)) (scope := defScope (Hd.top 32)) (N := [("_law_script" : Str), ("_law_index" : Str)]) (ps := [("_law_script" : Str), ("_law_index" : Str)]) rfl rfl
    (fun _ _ _ _ _ _ us hl => match us, hl with | [_, _], _ => rfl) (by decide +kernel) (by decide +kernel) rfl rfl rfl
    (fun e he => nomatch he)
theorem r__law_generator (c : He.SaysD Hd.fa Hd.fn K) (X : K.In h) (G : h.Ns mainGlobals mg) : RowOk Ir.T Ir.B Ir.KW K mg "_law_generator" Ir.f__law_generator :=
  row_of c X G 25 25 (n := "_law_generator") (params := defArgs (Hd.top 33)) (body := defBody (Hd.top 33)) (scope := defScope (Hd.top 33)) (N := [("_law_script" : Str), ("_law_index" : Str), ("_law_seed" : Str)]) (ps := [("_law_script" : Str), ("_law_index" : Str)]) rfl rfl
    (fun _ _ _ _ _ _ us hl => match us, hl with | [_, _], _ => rfl) (by decide +kernel) (by decide +kernel) rfl rfl rfl
    (fun e he => nomatch he)
theorem r__law_net (c : He.SaysD Hd.fa Hd.fn K) (X : K.In h) (G : h.Ns mainGlobals mg) : RowOk Ir.T Ir.B Ir.KW K mg "_law_net" Ir.f__law_net :=
  row_of c X G 26 26 (n := "_law_net") (params := defArgs (Hd.top 34)) (body := defBody (Hd.top 34)) (scope := defScope (Hd.top 34)) (N := [("_law_generator_here" : Str), ("_law_most" : Str), ("_law_keys" : Str), ("_law_houses" : Str), ("_law_roads" : Str), ("_law_low" : Str), ("_law_high" : Str)]) (ps := [("_law_generator_here" : Str), ("_law_most" : Str), ("_law_keys" : Str)]) rfl rfl
    (fun _ _ _ _ _ _ us hl => match us, hl with | [_, _, _], _ => rfl) (by decide +kernel) (by decide +kernel) rfl rfl rfl
    (fun e he => nomatch he)
theorem r__law_standing (c : He.SaysD Hd.fa Hd.fn K) (X : K.In h) (G : h.Ns mainGlobals mg) : RowOk Ir.T Ir.B Ir.KW K mg "_law_standing" Ir.f__law_standing :=
  row_of c X G 27 27 (n := "_law_standing") (params := defArgs (Hd.top 35)) (body := defBody (Hd.top 35)) (scope := defScope (Hd.top 35)) (N := [("_law_generator_here" : Str), ("_law_here" : Str), ("_law_low" : Str), ("_law_high" : Str), ("_law_many" : Str)]) (ps := [("_law_generator_here" : Str), ("_law_here" : Str)]) rfl rfl
    (fun _ _ _ _ _ _ us hl => match us, hl with | [_, _], _ => rfl) (by decide +kernel) (by decide +kernel) rfl rfl rfl
    (fun e he => nomatch he)
theorem r__law_drawn (c : He.SaysD Hd.fa Hd.fn K) (X : K.In h) (G : h.Ns mainGlobals mg) : RowOk Ir.T Ir.B Ir.KW K mg "_law_drawn" Ir.f__law_drawn :=
  row_of c X G 28 28 (n := "_law_drawn") (params := defArgs (Hd.top 36)) (body := defBody (Hd.top 36)) (scope := defScope (Hd.top 36)) (N := [("_law_generator_here" : Str), ("_law_most" : Str), ("_law_keys" : Str), ("_law_here" : Str)]) (ps := [("_law_generator_here" : Str), ("_law_most" : Str), ("_law_keys" : Str)]) rfl rfl
    (fun _ _ _ _ _ _ us hl => match us, hl with | [_, _, _], _ => rfl) (by decide +kernel) (by decide +kernel) rfl rfl rfl
    (fun e he => nomatch he)
theorem r__law_k (c : He.SaysD Hd.fa Hd.fn K) (X : K.In h) (G : h.Ns mainGlobals mg) : RowOk Ir.T Ir.B Ir.KW K mg "_law_k" Ir.f__law_k :=
  row_of c X G 29 29 (n := "_law_k") (params := defArgs (Hd.top 37)) (body := defBody (Hd.top 37)) (scope := defScope (Hd.top 37)) (N := [("_law_here" : Str), ("_law_stand" : Str), ("_law_one" : Str), ("_law_other" : Str), ("_law_road" : Str), ("_law_item" : Str)]) (ps := [("_law_here" : Str), ("_law_stand" : Str), ("_law_one" : Str), ("_law_other" : Str)]) rfl rfl
    (fun _ _ _ _ _ _ us hl => match us, hl with | [_, _, _, _], _ => rfl) (by decide +kernel) (by decide +kernel) rfl rfl rfl
    (fun e he => nomatch he)
theorem r__law_mates (c : He.SaysD Hd.fa Hd.fn K) (X : K.In h) (G : h.Ns mainGlobals mg) : RowOk Ir.T Ir.B Ir.KW K mg "_law_mates" Ir.f__law_mates :=
  row_of c X G 30 30 (n := "_law_mates") (params := defArgs (Hd.top 38)) (body := defBody (Hd.top 38)) (scope := defScope (Hd.top 38)) (N := [("_law_here" : Str), ("_law_house_there" : Str), ("_law_mate" : Str), ("_law_road" : Str)]) (ps := [("_law_here" : Str), ("_law_house_there" : Str)]) rfl rfl
    (fun _ _ _ _ _ _ us hl => match us, hl with | [_, _], _ => rfl) (by decide +kernel) (by decide +kernel) rfl rfl rfl
    (fun e he => nomatch he)
theorem r__law_can (c : He.SaysD Hd.fa Hd.fn K) (X : K.In h) (G : h.Ns mainGlobals mg) : RowOk Ir.T Ir.B Ir.KW K mg "_law_can" Ir.f__law_can :=
  row_of c X G 31 31 (n := "_law_can") (params := defArgs (Hd.top 39)) (body := defBody (Hd.top 39)) (scope := defScope (Hd.top 39)) (N := [("_law_here" : Str), ("_law_stand" : Str), ("_law_house_there" : Str), ("_law_mate" : Str)]) (ps := [("_law_here" : Str), ("_law_stand" : Str), ("_law_house_there" : Str)]) rfl rfl
    (fun _ _ _ _ _ _ us hl => match us, hl with | [_, _, _], _ => rfl) (by decide +kernel) (by decide +kernel) rfl rfl rfl
    (fun e he => nomatch he)
theorem r__law_work (c : He.SaysD Hd.fa Hd.fn K) (X : K.In h) (G : h.Ns mainGlobals mg) : RowOk Ir.T Ir.B Ir.KW K mg "_law_work" Ir.f__law_work :=
  row_of c X G 32 32 (n := "_law_work") (params := defArgs (Hd.top 40)) (body := defBody (Hd.top 40)) (scope := defScope (Hd.top 40)) (N := [("_law_here" : Str), ("_law_stand" : Str), ("_law_house_there" : Str), ("_law_found" : Str), ("_law_road" : Str), ("_law_item" : Str)]) (ps := [("_law_here" : Str), ("_law_stand" : Str), ("_law_house_there" : Str)]) rfl rfl
    (fun _ _ _ _ _ _ us hl => match us, hl with | [_, _, _], _ => rfl) (by decide +kernel) (by decide +kernel) rfl rfl rfl
    (fun e he => nomatch he)
theorem r__law_all (c : He.SaysD Hd.fa Hd.fn K) (X : K.In h) (G : h.Ns mainGlobals mg) : RowOk Ir.T Ir.B Ir.KW K mg "_law_all" Ir.f__law_all :=
  row_of c X G 39 39 (n := "_law_all") (params := defArgs (Hd.top 47)) (body := defBody (Hd.top 47)) (scope := defScope (Hd.top 47)) (N := [("_law_here" : Str), ("_law_stand" : Str), ("_law_found" : Str), ("_law_at" : Str), ("_law_house_there" : Str), ("_law_after" : Str)]) (ps := [("_law_here" : Str), ("_law_stand" : Str)]) rfl rfl
    (fun _ _ _ _ _ _ us hl => match us, hl with | [_, _], _ => rfl) (by decide +kernel) (by decide +kernel) rfl rfl rfl
    (fun e he => nomatch he)
theorem r__law_right (c : He.SaysD Hd.fa Hd.fn K) (X : K.In h) (G : h.Ns mainGlobals mg) : RowOk Ir.T Ir.B Ir.KW K mg "_law_right" Ir.f__law_right :=
  row_of c X G 40 40 (n := "_law_right") (params := defArgs (Hd.top 48)) (body := defBody (Hd.top 48)) (scope := defScope (Hd.top 48)) (N := [("_law_generator_here" : Str), ("_law_here" : Str), ("_law_stand" : Str), ("_law_kept" : Str), ("_law_every" : Str), ("_law_low" : Str), ("_law_high" : Str), ("_law_many" : Str), ("_law_one" : Str), ("_law_other" : Str), ("_law_due" : Str), ("_law_told" : Str), ("_law_item" : Str)]) (ps := [("_law_generator_here" : Str)]) rfl rfl
    (fun _ _ _ _ _ _ us hl => match us, hl with | [_], _ => rfl) (by decide +kernel) (by decide +kernel) rfl rfl rfl
    (fun e he => nomatch he)
theorem r_law (c : He.SaysD Hd.fa Hd.fn K) (X : K.In h) (G : h.Ns mainGlobals mg) : RowOk Ir.T Ir.B Ir.KW K mg "law" Ir.f_law :=
  row_of c X G 41 41 (n := "law") (params := defArgs (Hd.top 49)) (body := defBody (Hd.top 49)) (scope := defScope (Hd.top 49)) (N := [("_law_script" : Str), ("_law_index" : Str), ("_law_path" : Str), ("_law_ring" : Str), ("_law_told" : Str), ("_law_six" : Str), ("_law_five" : Str), ("_law_held" : Str), ("_law_many" : Str)]) (ps := [("_law_script" : Str)]) rfl rfl
    (fun _ _ _ _ _ _ us hl => match us, hl with | [_], _ => rfl) (by decide +kernel) (by decide +kernel) rfl rfl rfl
    (fun e he => nomatch he)
theorem rows (c : He.SaysD Hd.fa Hd.fn K) (X : K.In h) (G : h.Ns mainGlobals mg) : AllR (RowOk Ir.T Ir.B Ir.KW K mg) Ir.L := (.cons (r_is_whole c X G) (.cons (r_is_between c X G) (.cons (r_is_road c X G) (.cons (r_is_net c X G) (.cons (r_check_net c X G) (.cons (r_is_standing c X G) (.cons (r_check_standing c X G) (.cons (r_is_house c X G) (.cons (r_check_house c X G) (.cons (r_neighbours_of c X G) (.cons (r_directions_of c X G) (.cons (r_road_at c X G) (.cons (r_keys_in c X G) (.cons (r_lengths_from c X G) (.cons (r_free_ahead c X G) (.cons (r_stuck_houses c X G) (.cons (r_leads_over c X G) (.cons (r_lead_in c X G) (.cons (r_check_pair c X G) (.cons (r_check_ends c X G) (.cons (r_fewest_keys c X G) (.cons (r_most_keys c X G) (.cons (r__law_hash c X G) (.cons (r__law_random c X G) (.cons (r__law_cell c X G) (.cons (r__law_generator c X G) (.cons (r__law_net c X G) (.cons (r__law_standing c X G) (.cons (r__law_drawn c X G) (.cons (r__law_k c X G) (.cons (r__law_mates c X G) (.cons (r__law_can c X G) (.cons (r__law_work c X G) (.cons (r__law_all c X G) (.cons (r__law_right c X G) (.cons (r_law c X G) .nil))))))))))))))))))))))))))))))))))))
theorem frs (c : He.SaysD Hd.fa Hd.fn K) (X : K.In h) (G : h.Ns mainGlobals mg) : ∀ x ∈ Ir.B, mg x = none := free_of c X G fun x hx => frees_at (List.all_eq_true.mp (show (Ir.B.all fun x => Hd.fa.any (fun f => match f with | .free y => decide (y = x) | _ => false)) = true by decide +kernel) x hx)
end
end Rw

set_option Elab.async false
set_option linter.all false
set_option maxRecDepth 100000
set_option maxHeartbeats 0
open PySem PySem.W PySem.Calls PyProof.Rows
theorem law_holds (ev : ∀ ns : List Int, ns.length ≤ 63 → Kr.callK Ir.T 40 "law" [.list (ns.map PyData.int)] = some (.ret 0 (.bool true) [])) : PySem.Challenge.rw_keyroads_k29_whole_keys_at_an_end.Holds := by
  w_on; o_law
  refine HandSHeadRun.head_any (r := OpenLaw.row PySem.Challenge.rw_keyroads_k29_whole_keys_at_an_end) (q := view (OpenLaw.row PySem.Challenge.rw_keyroads_k29_whole_keys_at_an_end).prog [49]) (H := Hd.hk) (ob := Hd.ob) (M := 6000) (loose := Hd.loose) (d := HandSHeadRun.topDef (OpenLaw.row PySem.Challenge.rw_keyroads_k29_whole_keys_at_an_end).prog 49) (kwd := []) Hd.ob_eq
    (by kernel_rfl) (fun s => by kernel_rfl) Hd.run (by kernel_rfl) (by kernel_rfl) (by kernel_rfl) (by rfl) (by first | assumption | decide +kernel) (by decide +kernel) ⟨rfl, rfl, rfl, rfl, rfl, by decide +kernel⟩ ?hw ?hc
  case hw => w_witness2
  case hc =>
    refine Kr.walk_ofG (l := PySem.Challenge.rw_keyroads_k29_whole_keys_at_an_end) (n := 63) (k := 40) (x := "_law_script") (CX := fun w => L2.CX PySem.Challenge.rw_keyroads_k29_whole_keys_at_an_end.prog w) rfl (by decide) (by kernel_rfl) ⟨rfl, by decide, by decide⟩ ?F (fun _ _ _ _ _ z => let ⟨_, _, _, _, _, _, _, _, _, _, _, _, q⟩ := z; q)
    intro w mg fa h Y G hmg0
    obtain ⟨K, KX, gk, c⟩ := Y
    have hmg : mg ("law" : PySem.Str) = some (.ref fa) := by
      have e : (HandSHeadRun.topDef (OpenLaw.row PySem.Challenge.rw_keyroads_k29_whole_keys_at_an_end).prog 49).name = ("law" : PySem.Str) := by kernel_rfl
      rw [← e]
      exact hmg0
    have rows := Rw.rows c KX G
    have frs := Rw.frs c KX G
    have all := fun (base : Heap) (hb : K.In base) => Kr.fn_all (T := Ir.T) (cl := fun _ => .none) (B := Ir.B) (KW := Ir.KW) (P := PySem.Challenge.rw_keyroads_k29_whole_keys_at_an_end.prog) (w := w) (K := K) (mg := mg) (base := base) (fun f fd q => rows.get q) (Kr.goodK_sys gk hb) frs 39
    obtain ⟨fd, FD⟩ := c.def_ 41 (d := Hd.dd "law" "law" 49) rfl
    have ea : fa = He.fAd K ("law", none) := by
      have e := hmg.symm.trans (He.glo_ok KX G (c.fact 41 (f := .glo "law") rfl))
      cases e
      rfl
    refine ⟨K, fd, Kr.spF (fun _ => .none) Ir.f_law.pm (Kr.callK Ir.T 40 "law"), KX, gk, fun s v => ?_, fun H a ns o hl ha => Kr.law_sp ev H a ns o hl ha, fun base hb => ?_⟩
    · exact L2.FunD.bindsA (ps := ["_law_script"]) FD (fun _ _ _ _ _ _ us hl => match us, hl with | [_], _ => rfl) s [v] rfl
    · rw [ea]
      exact Kr.fn_step (T := Ir.T) (cl := fun _ => .none) (B := Ir.B) (KW := Ir.KW) (k := 39) (nm := "law") (fd := Ir.f_law) (N := [("_law_script" : PySem.Str), ("_law_index" : PySem.Str), ("_law_path" : PySem.Str), ("_law_ring" : PySem.Str), ("_law_told" : PySem.Str), ("_law_six" : PySem.Str), ("_law_five" : PySem.Str), ("_law_held" : PySem.Str), ("_law_many" : PySem.Str)]) (ps := ["_law_script"]) rfl FD (Kr.fnScope_of (by decide +kernel)) (by decide +kernel) rfl rfl rfl (Kr.goodK_sys gk hb) frs (all base hb)

set_option maxRecDepth 100000 in
set_option maxHeartbeats 0 in
theorem PySem.Challenge.cw_keyroads_k29_whole_keys_at_an_end_holds : PySem.Challenge.rw_keyroads_k29_whole_keys_at_an_end.Holds := by
  exact law_holds Kz.ev
