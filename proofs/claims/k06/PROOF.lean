import PyProof.Rows.All
import Wide.All
import OpenK.AllK
import Wide.FinOn
import HandS.ForMost
import HandS.Exc
import HandS.TryOnly
import HandS.ExcOwn
import HandS.WordsExc
import HandS.IsInst
import HandS.TupAny
import HandS.Flow
import HandS.Style
import KE.KeyNested
import KE.KDictWalk
import KE.KDictLaw
import HandS.Defaults
import KE.DatumIndex
import HandS.Deep
import KE.KDictKeyed
import KE.GoesZip
import KE.GoesMore
import KE.GoesEnum
import KE.GoesEnumKw
import HandS.SortKw
import HandS.HeadHook2
import KE.KStateDown
import HandS.Head0
import HandS.Head1
import HandS.Head2
import HandS.HeadEnd
import HandS.HeadHook1
import KE.SortData
import HandS.TupMul
import PyProof.ListStr
import HandS.Text
import PyProof.StrLawsRepr
import PySem.Challenge.RW_keywait_k06_rows_known
set_option Elab.async false
set_option linter.all false
set_option maxRecDepth 100000
/-! KWa: trees of data over the abstract heap: D, Rep, Evo, Fit. -/
namespace KW
open PySem PySem.Spec L2
open PyProof.Rows hiding St

/-- a Python value as a tree; the flag of a list, a dict: owned (it may still be changed), else frozen -/
inductive D where
  | non | bl (b : Bool) | int (i : Int) | str (s : Str)
  | tup (ds : List D) | lst (o : Bool) (ds : List D) | dct (o : Bool) (kvs : List (D × D))
  | opq (v : V)
instance : Inhabited D := ⟨.non⟩

namespace D
mutual
def fz : D → D
  | .non => .non | .bl b => .bl b | .int i => .int i | .str s => .str s | .opq v => .opq v
  | .tup ds => .tup (fzs ds)
  | .lst _ ds => .lst false (fzs ds)
  | .dct _ kvs => .dct false (fzk kvs)
def fzs : List D → List D
  | [] => []
  | d :: ds => fz d :: fzs ds
def fzk : List (D × D) → List (D × D)
  | [] => []
  | (k, d) :: r => (k, fz d) :: fzk r
end
mutual
def isFz : D → Bool
  | .non => true | .bl _ => true | .int _ => true | .str _ => true | .opq _ => true
  | .tup ds => isFzs ds
  | .lst o ds => !o && isFzs ds
  | .dct o kvs => !o && isFzk kvs
def isFzs : List D → Bool
  | [] => true
  | d :: ds => isFz d && isFzs ds
def isFzk : List (D × D) → Bool
  | [] => true
  | (_, d) :: r => isFz d && isFzk r
end
mutual
/-- the key that a hashable value is -/
def key? : D → Option NestedKey
  | .non => some .none
  | .bl b => some (.num (if b = true then 1 else 0))
  | .int i => some (.num i)
  | .str s => some (.text s)
  | .tup ds => (keys? ds).map .tup
  | .lst _ _ => none | .dct _ _ => none | .opq _ => none
def keys? : List D → Option (List NestedKey)
  | [] => some []
  | d :: ds => match key? d, keys? ds with
    | some k, some ks => some (k :: ks)
    | _, _ => none
end
theorem fzs_eq : ∀ ds : List D, fzs ds = ds.map fz
  | [] => rfl
  | d :: ds => by rw [fzs, fzs_eq ds]; rfl
theorem fzk_eq : ∀ ds : List (D × D), fzk ds = ds.map fun p => (p.1, fz p.2)
  | [] => rfl
  | (k, d) :: ds => by rw [fzk, fzk_eq ds]; rfl
theorem isFzs_eq : ∀ ds : List D, isFzs ds = ds.all isFz
  | [] => rfl
  | d :: ds => by rw [isFzs, isFzs_eq ds]; rfl
theorem isFzk_eq : ∀ ds : List (D × D), isFzk ds = ds.all fun p => isFz p.2
  | [] => rfl
  | (k, d) :: ds => by rw [isFzk, isFzk_eq ds]; rfl
mutual
theorem isFz_fz : ∀ d : D, isFz (fz d) = true
  | .non => rfl | .bl _ => rfl | .int _ => rfl | .str _ => rfl | .opq _ => rfl
  | .tup ds => by rw [fz, isFz]; exact isFzs_fzs ds
  | .lst _ ds => by rw [fz, isFz, isFzs_fzs ds]; rfl
  | .dct _ kvs => by rw [fz, isFz, isFzk_fzk kvs]; rfl
theorem isFzs_fzs : ∀ ds : List D, isFzs (fzs ds) = true
  | [] => rfl
  | d :: ds => by rw [fzs, isFzs, isFz_fz d, isFzs_fzs ds]; rfl
theorem isFzk_fzk : ∀ ds : List (D × D), isFzk (fzk ds) = true
  | [] => rfl
  | (k, d) :: ds => by rw [fzk, isFzk, isFz_fz d, isFzk_fzk ds]; rfl
end
mutual
theorem fz_of : ∀ d : D, isFz d = true → fz d = d
  | .non, _ => rfl | .bl _, _ => rfl | .int _, _ => rfl | .str _, _ => rfl | .opq _, _ => rfl
  | .tup ds, h => by rw [fz, fzs_of ds (by rw [isFz] at h; exact h)]
  | .lst o ds, h => by
    rw [isFz, Bool.and_eq_true] at h
    have : o = false := by cases o <;> simp_all
    subst this
    rw [fz, fzs_of ds h.2]
  | .dct o kvs, h => by
    rw [isFz, Bool.and_eq_true] at h
    have : o = false := by cases o <;> simp_all
    subst this
    rw [fz, fzk_of kvs h.2]
theorem fzs_of : ∀ ds : List D, isFzs ds = true → fzs ds = ds
  | [], _ => rfl
  | d :: ds, h => by
    rw [isFzs, Bool.and_eq_true] at h
    rw [fzs, fz_of d h.1, fzs_of ds h.2]
theorem fzk_of : ∀ ds : List (D × D), isFzk ds = true → fzk ds = ds
  | [], _ => rfl
  | (k, d) :: ds, h => by
    rw [isFzk, Bool.and_eq_true] at h
    rw [fzk, fz_of d h.1, fzk_of ds h.2]
end
@[simp] theorem fz_fz (d : D) : fz (fz d) = fz d := fz_of _ (isFz_fz d)
end D

/-- what stands at an address for good -/
def Perm : HO → Prop
  | .tup _ => True
  | .frz _ _ => True
  | _ => False
/-- what may be owned -/
def OwnO : HO → Prop
  | .lst _ => True
  | .ext _ => True
  | _ => False
theorem OwnO.np {o : HO} (h : OwnO o) : ¬ Perm o := by cases o <;> simp_all [OwnO, Perm]
theorem OwnO.mut {o : HO} (h : OwnO o) : Mut (some o) := by cases o <;> simp_all [OwnO, Mut]

/-- a plain dict stands at a, its entries by hash, key, value -/
def RDp (a : Addr) (es : List (Int × V × V)) (h : Heap) : Prop :=
  (a == sysModules) = false ∧ es.length ≤ sizeLine ∧ ∃ eo ep, h.DictRaw a eo ep ∧ Paired (fun (x : Int × V × V) (e : DictEntry) => e.hash = x.1 ∧ RelV x.2.1 e.key ∧ RelV x.2.2 e.val) es eo.toList
def RD (a : Addr) (es : List (Int × V × V)) : HO := .ext (RDp a es)

/-- a list that stands for good -/
def FrL (K : PySem.W.Frag) (H : Hp) (a : Addr) (xs : List V) : Prop :=
  (∃ o, H a = some (.frz o (.lst xs))) ∨
    ∃ (o : Obj) (its : Array Value) (n : Nat), K.lookup a = some o ∧ o.cls = .type "list" ∧ o.dict = none ∧ o.data = .seq its n ∧ its.size ≤ sizeLine ∧ Vals xs its.toList
theorem FrL.sq {K : PySem.W.Frag} {H : Hp} {a : Addr} {xs : List V} (h : FrL K H a xs) : SqL K H a xs := by
  rcases h with ⟨o, h⟩ | h
  · exact .inl (.inr ⟨o, h⟩)
  · exact .inr h

/-- the keys of a dict's entries -/
def keysOf (kvs : List (D × D)) : List (Option NestedKey) := kvs.map fun p => p.1.key?

mutual
/-- in H the value v is the tree d; fp: where its owned nodes stand -/
inductive Rep (w : World) (K : PySem.W.Frag) (H : Hp) : List Addr → V → D → Prop
  | non : Rep w K H [] .non .non
  | bl (b : Bool) : Rep w K H [] (.bl b) (.bl b)
  | int (i : Int) : Rep w K H [] (.int i) (.int i)
  | str (s : Str) : Rep w K H [] (.str s) (.str s)
  | opq (v : V) : Rep w K H [] v (.opq v)
  | tup {a xs ds fp} : SqT K H a xs → Reps w K H fp xs ds → Rep w K H fp (.ref a) (.tup ds)
  | lstF {a xs ds} : FrL K H a xs → Reps w K H [] xs ds → Rep w K H [] (.ref a) (.lst false ds)
  | lstO {a xs ds fp} : H a = some (.lst xs) → Reps w K H fp xs ds → Rep w K H (a :: fp) (.ref a) (.lst true ds)
  | dctF {a o es kvs} : H a = some (.frz o (RD a es)) → (keysOf kvs).Nodup → RepD w K H [] es kvs → Rep w K H [] (.ref a) (.dct false kvs)
  | dctO {a es kvs fp} : H a = some (RD a es) → (keysOf kvs).Nodup → RepD w K H fp es kvs → Rep w K H (a :: fp) (.ref a) (.dct true kvs)
inductive Reps (w : World) (K : PySem.W.Frag) (H : Hp) : List Addr → List V → List D → Prop
  | nil : Reps w K H [] [] []
  | cons {fp gp v vs d ds} : Rep w K H fp v d → Reps w K H gp vs ds → Reps w K H (fp ++ gp) (v :: vs) (d :: ds)
inductive RepD (w : World) (K : PySem.W.Frag) (H : Hp) : List Addr → List (Int × V × V) → List (D × D) → Prop
  | nil : RepD w K H [] [] []
  | cons {fp gp kv k kk v d es kvs} : Rep w K H [] kv k → k.key? = some kk → kk.depth ≤ 8 → Rep w K H fp v d → RepD w K H gp es kvs → RepD w K H (fp ++ gp) ((kk.hash w, kv, v) :: es) ((k, d) :: kvs)
end

section
variable {w : World} {K : PySem.W.Frag} {H H' : Hp}
theorem SqT.mono {a : Addr} {xs : List V} (h : SqT K H a xs) (hk : ∀ a o, H a = some o → Perm o → H' a = some o) : SqT K H' a xs := by
  rcases h with (h | ⟨o, h⟩) | h
  · exact .inl (.inl (hk _ _ h trivial))
  · exact .inl (.inr ⟨o, hk _ _ h trivial⟩)
  · exact .inr h
theorem FrL.mono {a : Addr} {xs : List V} (h : FrL K H a xs) (hk : ∀ a o, H a = some o → Perm o → H' a = some o) : FrL K H' a xs := by
  rcases h with ⟨o, h⟩ | h
  · exact .inl ⟨o, hk _ _ h trivial⟩
  · exact .inr h

mutual
/-- it stays while its owned nodes and what stands for good stay -/
theorem Rep.mono (hk : ∀ a o, H a = some o → Perm o → H' a = some o) : ∀ (d : D) (fp : List Addr) (v : V), (∀ a ∈ fp, ∀ o, H a = some o → H' a = some o) → Rep w K H fp v d → Rep w K H' fp v d
  | .non, _, _, _, h => by cases h; exact .non
  | .bl _, _, _, _, h => by cases h; exact .bl _
  | .int _, _, _, _, h => by cases h; exact .int _
  | .str _, _, _, _, h => by cases h; exact .str _
  | .opq _, _, _, _, h => by cases h; exact .opq _
  | .tup ds, _, _, hf, h => by
    cases h with
    | tup h1 h2 => exact .tup (SqT.mono h1 hk) (Reps.mono hk ds _ _ hf h2)
  | .lst _ ds, _, _, hf, h => by
    cases h with
    | lstF h1 h2 => exact .lstF (h1.mono hk) (Reps.mono hk ds _ _ (fun _ z => nomatch z) h2)
    | lstO h1 h2 => exact .lstO (hf _ List.mem_cons_self _ h1) (Reps.mono hk ds _ _ (fun a z => hf a (List.mem_cons_of_mem _ z)) h2)
  | .dct _ kvs, _, _, hf, h => by
    cases h with
    | dctF h1 hn h2 => exact .dctF (hk _ _ h1 trivial) hn (RepD.mono hk kvs _ _ (fun _ z => nomatch z) h2)
    | dctO h1 hn h2 => exact .dctO (hf _ List.mem_cons_self _ h1) hn (RepD.mono hk kvs _ _ (fun a z => hf a (List.mem_cons_of_mem _ z)) h2)
theorem Reps.mono (hk : ∀ a o, H a = some o → Perm o → H' a = some o) : ∀ (ds : List D) (fp : List Addr) (vs : List V), (∀ a ∈ fp, ∀ o, H a = some o → H' a = some o) → Reps w K H fp vs ds → Reps w K H' fp vs ds
  | [], _, _, _, h => by cases h; exact .nil
  | d :: ds, _, _, hf, h => by
    cases h with
    | cons h1 h2 => exact .cons (Rep.mono hk d _ _ (fun a z => hf a (List.mem_append_left _ z)) h1) (Reps.mono hk ds _ _ (fun a z => hf a (List.mem_append_right _ z)) h2)
theorem RepD.mono (hk : ∀ a o, H a = some o → Perm o → H' a = some o) : ∀ (kvs : List (D × D)) (fp : List Addr) (es : List (Int × V × V)), (∀ a ∈ fp, ∀ o, H a = some o → H' a = some o) → RepD w K H fp es kvs → RepD w K H' fp es kvs
  | [], _, _, _, h => by cases h; exact .nil
  | (k, d) :: kvs, _, _, hf, h => by
    cases h with
    | cons hkv e hd h1 h2 =>
      exact .cons (Rep.mono hk k _ _ (fun _ z => nomatch z) hkv) e hd (Rep.mono hk d _ _ (fun a z => hf a (List.mem_append_left _ z)) h1) (RepD.mono hk kvs _ _ (fun a z => hf a (List.mem_append_right _ z)) h2)
end
mutual
/-- what stands at the owned nodes -/
theorem Rep.own : ∀ (d : D) (fp : List Addr) (v : V), Rep w K H fp v d → ∀ a ∈ fp, ∃ o, H a = some o ∧ OwnO o
  | .non, _, _, h => by cases h; exact fun _ z => nomatch z
  | .bl _, _, _, h => by cases h; exact fun _ z => nomatch z
  | .int _, _, _, h => by cases h; exact fun _ z => nomatch z
  | .str _, _, _, h => by cases h; exact fun _ z => nomatch z
  | .opq _, _, _, h => by cases h; exact fun _ z => nomatch z
  | .tup ds, _, _, h => by
    cases h with
    | tup h1 h2 => exact Reps.own ds _ _ h2
  | .lst _ ds, _, _, h => by
    cases h with
    | lstF h1 h2 => exact fun _ z => nomatch z
    | lstO h1 h2 =>
      intro a z
      rcases List.mem_cons.mp z with rfl | z
      · exact ⟨_, h1, trivial⟩
      · exact Reps.own ds _ _ h2 a z
  | .dct _ kvs, _, _, h => by
    cases h with
    | dctF h1 hn h2 => exact fun _ z => nomatch z
    | dctO h1 hn h2 =>
      intro a z
      rcases List.mem_cons.mp z with rfl | z
      · exact ⟨_, h1, trivial⟩
      · exact RepD.own kvs _ _ h2 a z
theorem Reps.own : ∀ (ds : List D) (fp : List Addr) (vs : List V), Reps w K H fp vs ds → ∀ a ∈ fp, ∃ o, H a = some o ∧ OwnO o
  | [], _, _, h => by cases h; exact fun _ z => nomatch z
  | d :: ds, _, _, h => by
    cases h with
    | cons h1 h2 =>
      intro a z
      rcases List.mem_append.mp z with z | z
      · exact Rep.own d _ _ h1 a z
      · exact Reps.own ds _ _ h2 a z
theorem RepD.own : ∀ (kvs : List (D × D)) (fp : List Addr) (es : List (Int × V × V)), RepD w K H fp es kvs → ∀ a ∈ fp, ∃ o, H a = some o ∧ OwnO o
  | [], _, _, h => by cases h; exact fun _ z => nomatch z
  | (k, d) :: kvs, _, _, h => by
    cases h with
    | cons hkv e hd h1 h2 =>
      intro a z
      rcases List.mem_append.mp z with z | z
      · exact Rep.own d _ _ h1 a z
      · exact RepD.own kvs _ _ h2 a z
end
mutual
/-- a frozen tree owns nothing -/
theorem Rep.fp_nil : ∀ (d : D) (fp : List Addr) (v : V), d.isFz = true → Rep w K H fp v d → fp = []
  | .non, _, _, _, h => by cases h; rfl
  | .bl _, _, _, _, h => by cases h; rfl
  | .int _, _, _, _, h => by cases h; rfl
  | .str _, _, _, _, h => by cases h; rfl
  | .opq _, _, _, _, h => by cases h; rfl
  | .tup ds, _, _, hz, h => by
    cases h with
    | tup h1 h2 => exact Reps.fp_nil ds _ _ (by rw [D.isFz] at hz; exact hz) h2
  | .lst _ ds, _, _, hz, h => by
    cases h with
    | lstF h1 h2 => rfl
    | lstO h1 h2 => simp [D.isFz] at hz
  | .dct _ kvs, _, _, hz, h => by
    cases h with
    | dctF h1 hn h2 => rfl
    | dctO h1 hn h2 => simp [D.isFz] at hz
theorem Reps.fp_nil : ∀ (ds : List D) (fp : List Addr) (vs : List V), D.isFzs ds = true → Reps w K H fp vs ds → fp = []
  | [], _, _, _, h => by cases h; rfl
  | d :: ds, _, _, hz, h => by
    cases h with
    | cons h1 h2 =>
      rw [D.isFzs, Bool.and_eq_true] at hz
      rw [Rep.fp_nil d _ _ hz.1 h1, Reps.fp_nil ds _ _ hz.2 h2]; rfl
end
theorem RepD.fp_nil : ∀ (kvs : List (D × D)) (fp : List Addr) (es : List (Int × V × V)), D.isFzk kvs = true → RepD w K H fp es kvs → fp = []
  | [], _, _, _, h => by cases h; rfl
  | (k, d) :: kvs, _, _, hz, h => by
    cases h with
    | cons hkv e hd h1 h2 =>
      rw [D.isFzk, Bool.and_eq_true] at hz
      rw [Rep.fp_nil d _ _ hz.1 h1, RepD.fp_nil kvs _ _ hz.2 h2]; rfl
mutual
/-- a tree that owns nothing is frozen -/
theorem Rep.isFz : ∀ (d : D) (v : V), Rep w K H [] v d → d.isFz = true
  | .non, _, h => rfl
  | .bl _, _, h => rfl
  | .int _, _, h => rfl
  | .str _, _, h => rfl
  | .opq _, _, h => rfl
  | .tup ds, _, h => by
    cases h with
    | tup h1 h2 => rw [D.isFz]; exact Reps.isFz ds _ _ rfl h2
  | .lst _ ds, _, h => by
    cases h with
    | lstF h1 h2 => rw [D.isFz, Reps.isFz ds _ _ rfl h2]; rfl
  | .dct _ kvs, _, h => by
    cases h with
    | dctF h1 hn h2 => rw [D.isFz, RepD.isFz kvs _ _ rfl h2]; rfl
theorem Reps.isFz : ∀ (ds : List D) (fp : List Addr) (vs : List V), fp = [] → Reps w K H fp vs ds → D.isFzs ds = true
  | [], _, _, _, h => rfl
  | d :: ds, _, _, hz, h => by
    cases h with
    | cons h1 h2 =>
      obtain ⟨e1, e2⟩ := List.append_eq_nil_iff.mp hz
      subst e1
      rw [D.isFzs, Rep.isFz d _ h1, Reps.isFz ds _ _ e2 h2]; rfl
theorem RepD.isFz : ∀ (kvs : List (D × D)) (fp : List Addr) (es : List (Int × V × V)), fp = [] → RepD w K H fp es kvs → D.isFzk kvs = true
  | [], _, _, _, h => rfl
  | (k, d) :: kvs, _, _, hz, h => by
    cases h with
    | cons hkv e hd h1 h2 =>
      obtain ⟨e1, e2⟩ := List.append_eq_nil_iff.mp hz
      subst e1
      rw [D.isFzk, Rep.isFz d _ h1, RepD.isFz kvs _ _ e2 h2]; rfl
end
/-- the nodes at fp are frozen, all else is kept -/
def FrzTo (fp : List Addr) (H H' : Hp) : Prop := (∀ a, a ∉ fp → H' a = H a) ∧ ∀ a ∈ fp, ∀ o, H a = some o → ∃ ob, H' a = some (.frz ob o)
mutual
theorem Rep.frz (hk : ∀ a o, H a = some o → Perm o → H' a = some o) : ∀ (d : D) (fp : List Addr) (v : V), (∀ a ∈ fp, ∀ o, H a = some o → ∃ ob, H' a = some (.frz ob o)) → Rep w K H fp v d → Rep w K H' [] v d.fz
  | .non, _, _, _, h => by cases h; exact .non
  | .bl _, _, _, _, h => by cases h; exact .bl _
  | .int _, _, _, _, h => by cases h; exact .int _
  | .str _, _, _, _, h => by cases h; exact .str _
  | .opq _, _, _, _, h => by cases h; exact .opq _
  | .tup ds, _, _, hf, h => by
    cases h with
    | tup h1 h2 => exact .tup (SqT.mono h1 hk) (Reps.frz hk ds _ _ hf h2)
  | .lst _ ds, _, _, hf, h => by
    cases h with
    | lstF h1 h2 => exact .lstF (h1.mono hk) (Reps.frz hk ds _ _ (fun _ z _ _ => absurd z List.not_mem_nil) h2)
    | lstO h1 h2 =>
      obtain ⟨ob, e⟩ := hf _ List.mem_cons_self _ h1
      exact .lstF (.inl ⟨ob, e⟩) (Reps.frz hk ds _ _ (fun a z => hf a (List.mem_cons_of_mem _ z)) h2)
  | .dct _ kvs, _, _, hf, h => by
    cases h with
    | dctF h1 hn h2 => exact .dctF (hk _ _ h1 trivial) (by rw [show keysOf (D.fzk kvs) = keysOf kvs by rw [D.fzk_eq]; simp [keysOf]]; exact hn) (RepD.frz hk kvs _ _ (fun _ z _ _ => absurd z List.not_mem_nil) h2)
    | dctO h1 hn h2 =>
      obtain ⟨ob, e⟩ := hf _ List.mem_cons_self _ h1
      exact .dctF e (by rw [show keysOf (D.fzk kvs) = keysOf kvs by rw [D.fzk_eq]; simp [keysOf]]; exact hn) (RepD.frz hk kvs _ _ (fun a z => hf a (List.mem_cons_of_mem _ z)) h2)
theorem Reps.frz (hk : ∀ a o, H a = some o → Perm o → H' a = some o) : ∀ (ds : List D) (fp : List Addr) (vs : List V), (∀ a ∈ fp, ∀ o, H a = some o → ∃ ob, H' a = some (.frz ob o)) → Reps w K H fp vs ds → Reps w K H' [] vs (D.fzs ds)
  | [], _, _, _, h => by cases h; exact .nil
  | d :: ds, _, _, hf, h => by
    cases h with
    | cons h1 h2 => exact .cons (Rep.frz hk d _ _ (fun a z => hf a (List.mem_append_left _ z)) h1) (Reps.frz hk ds _ _ (fun a z => hf a (List.mem_append_right _ z)) h2)
theorem RepD.frz (hk : ∀ a o, H a = some o → Perm o → H' a = some o) : ∀ (kvs : List (D × D)) (fp : List Addr) (es : List (Int × V × V)), (∀ a ∈ fp, ∀ o, H a = some o → ∃ ob, H' a = some (.frz ob o)) → RepD w K H fp es kvs → RepD w K H' [] es (D.fzk kvs)
  | [], _, _, _, h => by cases h; exact .nil
  | (k, d) :: kvs, _, _, hf, h => by
    cases h with
    | cons hkv e hd h1 h2 =>
      exact .cons (Rep.mono hk k _ _ (fun _ z => nomatch z) hkv) e hd (Rep.frz hk d _ _ (fun a z => hf a (List.mem_append_left _ z)) h1) (RepD.frz hk kvs _ _ (fun a z => hf a (List.mem_append_right _ z)) h2)
end
end

/-! ### how heap and footprints may change; the slots -/
abbrev Fps := Nat → List Addr
structure Evo (G : Fps) (H : Hp) (G' : Fps) (H' : Hp) : Prop where
  keep : ∀ a o, H a = some o → (∀ i, a ∉ G i) → H' a = some o
  new : ∀ i a, a ∈ G' i → (∃ j, a ∈ G j) ∨ H a = none
  dom : ∀ a o, H a = some o → ∃ o', H' a = some o'
theorem Evo.refl (G : Fps) (H : Hp) : Evo G H G H := ⟨fun _ _ h _ => h, fun i _ h => .inl ⟨i, h⟩, fun _ o h => ⟨o, h⟩⟩
theorem Evo.free {G H G' H'} (e : Evo G H G' H') {a : Addr} (h : H' a = none) : H a = none := by
  cases q : H a with
  | none => rfl
  | some o =>
    obtain ⟨o', z⟩ := e.dom a o q
    rw [h] at z; cases z
theorem Evo.trans {G H G1 H1 G2 H2} (a : Evo G H G1 H1) (b : Evo G1 H1 G2 H2) : Evo G H G2 H2 where
  keep := fun x o h n => b.keep x o (a.keep x o h n) fun i hi => by
    rcases a.new i x hi with ⟨j, hj⟩ | hn
    · exact n j hj
    · rw [hn] at h; cases h
  new := fun i x hi => by
    rcases b.new i x hi with ⟨j, hj⟩ | hn
    · exact a.new j x hj
    · exact .inr (a.free hn)
  dom := fun x o h => by
    obtain ⟨o', h'⟩ := a.dom x o h
    exact b.dom x o' h'

/-- new nodes, or such as were owned -/
def Nw (G : Fps) (H : Hp) (fp : List Addr) : Prop := ∀ a ∈ fp, (∃ j, a ∈ G j) ∨ H a = none
theorem Nw.nil {G : Fps} {H : Hp} : Nw G H [] := fun _ z => nomatch z
theorem Nw.fresh {G : Fps} {H : Hp} {fp : List Addr} (h : ∀ a ∈ fp, H a = none) : Nw G H fp := fun a z => .inr (h a z)
theorem Nw.back {G G1 : Fps} {H H1 : Hp} {fp : List Addr} (n : Nw G1 H1 fp) (e : Evo G H G1 H1) : Nw G H fp := fun a z => by
  rcases n a z with ⟨j, hj⟩ | h
  · exact e.new j a hj
  · exact .inr (e.free h)
theorem Nw.append {G : Fps} {H : Hp} {fp gp : List Addr} (a : Nw G H fp) (b : Nw G H gp) : Nw G H (fp ++ gp) := fun x z => (List.mem_append.mp z).elim (a x) (b x)
/-- apart from what is owned, and there: not new -/
theorem Nw.ne {G : Fps} {H : Hp} {fp : List Addr} (n : Nw G H fp) {a : Addr} {o : HO} (h : H a = some o) (ap : ∀ i, a ∉ G i) : a ∉ fp := fun z => by
  rcases n a z with ⟨j, hj⟩ | q
  · exact ap j hj
  · rw [h] at q; cases q

abbrev Env := List (Option D)
structure Fit (w : World) (K : PySem.W.Frag) (p : Option V) (H : Hp) (σ : St) (ρ : Env) (G : Fps) : Prop where
  rep : ∀ (i : Nat) (d : D), ρ[i]? = some (some d) → ∃ v, σ[i]? = some (some v) ∧ Rep w K H (G i) v d
  emp : ∀ i : Nat, (∀ d : D, ρ[i]? ≠ some (some d)) → G i = []
  nod : ∀ i, (G i).Nodup
  dj : ∀ i j a, a ∈ G i → a ∈ G j → i = j
  len : ρ.length = σ.length
  pin : ∀ v, p = some v → σ[0]? = some (some v)
section
variable {w : World} {K : PySem.W.Frag} {p : Option V} {H H' : Hp} {σ : St} {ρ : Env} {G G' : Fps}
theorem Fit.own (F : Fit w K p H σ ρ G) {i : Nat} {a : Addr} (h : a ∈ G i) : ∃ o, H a = some o ∧ OwnO o := by
  cases q : ρ[i]? with
  | none => rw [F.emp i (fun d z => by rw [q] at z; cases z)] at h; cases h
  | some x =>
    cases x with
    | none => rw [F.emp i (fun d z => by rw [q] at z; cases z)] at h; cases h
    | some d =>
      obtain ⟨v, _, r⟩ := F.rep i d q
      exact r.own d _ _ a h
theorem Fit.perm (F : Fit w K p H σ ρ G) (e : Evo G H G' H') : ∀ a o, H a = some o → Perm o → H' a = some o := fun a o h p =>
  e.keep a o h fun i hi => by
    obtain ⟨o', h', ow⟩ := F.own hi
    rw [h] at h'; cases h'
    exact ow.np p
theorem Fit.fresh (F : Fit w K p H σ ρ G) {q : Addr} (h : H q = none) (i : Nat) : q ∉ G i := fun hi => by
  obtain ⟨o, e, _⟩ := F.own hi
  rw [h] at e; cases e
/-- what is apart from the slots stays -/
theorem Rep.evo (F : Fit w K p H σ ρ G) (e : Evo G H G' H') {fp : List Addr} {v : V} {d : D} (r : Rep w K H fp v d) (ha : ∀ a ∈ fp, ∀ i, a ∉ G i) : Rep w K H' fp v d :=
  r.mono (F.perm e) d _ _ fun a h o ho => e.keep a o ho (ha a h)
theorem Reps.evo (F : Fit w K p H σ ρ G) (e : Evo G H G' H') {fp : List Addr} {v : List V} {d : List D} (r : Reps w K H fp v d) (ha : ∀ a ∈ fp, ∀ i, a ∉ G i) : Reps w K H' fp v d :=
  r.mono (F.perm e) d _ _ fun a h o ho => e.keep a o ho (ha a h)
/-- .. and stays apart -/
theorem Fit.apart (F : Fit w K p H σ ρ G) (e : Evo G H G' H') {a : Addr} {o : HO} (h : H a = some o) (ha : ∀ i, a ∉ G i) : ∀ i, a ∉ G' i := fun i hi => by
  rcases e.new i a hi with ⟨j, hj⟩ | hn
  · exact ha j hj
  · rw [hn] at h; cases h
/-- a heap that only grows -/
theorem Fit.grow (F : Fit w K p H σ ρ G) (s : Same H H') : Fit w K p H' σ ρ G :=
  ⟨fun i d h => let ⟨v, e, r⟩ := F.rep i d h; ⟨v, e, r.mono (fun a o h _ => s a o h) d _ _ fun a _ o h => s a o h⟩, F.emp, F.nod, F.dj, F.len, F.pin⟩
theorem Evo.grow (s : Same H H') : Evo G H G H' := ⟨fun a o h _ => s a o h, fun i a h => .inl ⟨i, h⟩, fun a o h => ⟨o, s a o h⟩⟩
end
theorem same_upd {H : Hp} {p : Addr} {o : HO} (h : H p = none) : Same H (upd H p o) := fun b u e => by
  rw [upd_ne (ne_of_none e h)]; exact e
end KW
/-! KWb: readings over environments of trees: expressions, tests, statements. -/
namespace KW
open PySem PySem.Spec L2
open PyProof.Rows hiding St

/-! ### weakening -/
theorem PE.imp {X : Cx} {e : Expr} {t t' : TE} (h : PE X e t) (m : ∀ σ H Q, t' σ H Q → t σ H Q) : PE X e t' := ⟨fun pins s σ H Q I q => h.run pins s σ H Q I (m σ H Q q)⟩
theorem PT.imp {X : Cx} {e : Expr} {t t' : TT} (h : PT X e t) (m : ∀ σ H Q, t' σ H Q → t σ H Q) : PT X e t' := ⟨fun pins s σ H Q I q => h.run pins s σ H Q I (m σ H Q q)⟩
theorem PW.imp {X : Cx} {e : Expr} {t t' : TT} (h : PW X e t) (m : ∀ σ H Q, t' σ H Q → t σ H Q) : PW X e t' := ⟨fun wh pins s σ H Q I q => h.run wh pins s σ H Q I (m σ H Q q)⟩
theorem PA.imp {X : Cx} {e : List Expr} {t t' : TA} (h : PA X e t) (m : ∀ σ H Q, t' σ H Q → t σ H Q) : PA X e t' := ⟨fun p pins s σ H Q I q => h.run p pins s σ H Q I (m σ H Q q)⟩
theorem PS.imp {X : Cx} {e : Stmt} {t t' : TS} (h : PS X e t) (m : ∀ D σ H, t' D σ H → t D σ H) : PS X e t' := ⟨fun pins s σ H D I q => h.run pins s σ H D I (m D σ H q)⟩
theorem PSs.imp {X : Cx} {e : List Stmt} {t t' : TS} (h : PSs X e t) (m : ∀ D σ H, t' D σ H → t D σ H) : PSs X e t' := ⟨fun pins s σ H D I q => h.run pins s σ H D I (m D σ H q)⟩

/-! ### operands -/
/-- a value that is there, or what stands in a slot -/
inductive Opd where
  | val (d : D) | slot (i : Nat)
def Opd.get (ρ : Env) : Opd → Option D
  | .val d => some d
  | .slot i => ρ.getD i none
theorem getD_some {ρ : Env} {i : Nat} {d : D} (h : ρ.getD i none = some d) : ρ[i]? = some (some d) := by
  rw [List.getD_eq_getElem?_getD] at h
  cases q : ρ[i]? with
  | none => rw [q] at h; cases h
  | some x => rw [q] at h; exact congrArg some h
def RepOpd (w : World) (K : PySem.W.Frag) (H : Hp) (σ : St) (G : Fps) (fp : List Addr) (v : V) : Opd → Prop
  | .val d => Rep w K H fp v d ∧ fp.Nodup ∧ ∀ a ∈ fp, ∀ i, a ∉ G i
  | .slot i => fp = [] ∧ σ[i]? = some (some v)
section
variable {w : World} {K : PySem.W.Frag} {p : Option V} {H H' : Hp} {σ : St} {ρ ρ' : Env} {G G' : Fps} {fp : List Addr} {v : V} {x : Opd}
theorem RepOpd.evo (F : Fit w K p H σ ρ G) (e : Evo G H G' H') (r : RepOpd w K H σ G fp v x) : RepOpd w K H' σ G' fp v x := by
  cases x with
  | val d =>
    obtain ⟨r, n, a⟩ := r
    refine ⟨r.evo F e a, n, fun b hb => ?_⟩
    obtain ⟨o, ho, _⟩ := r.own d _ _ b hb
    exact F.apart e ho (a b hb)
  | slot i => exact r
theorem RepOpd.rep (F : Fit w K p H σ ρ G) (r : RepOpd w K H σ G fp v x) {d : D} (h : x.get ρ = some d) : ∃ fp, Rep w K H fp v d := by
  cases x with
  | val d' => cases h; exact ⟨_, r.1⟩
  | slot i =>
    obtain ⟨v', e, r'⟩ := F.rep i d (getD_some h)
    rw [r.2] at e; cases e
    exact ⟨_, r'⟩
end

/-! ### readings -/
abbrev TDE := Env → (Opd → Env → Prop) → Prop
abbrev TDT := Env → (Bool → Env → Prop) → Prop
abbrev TDA := Env → (List Opd → Env → Prop) → Prop
section
variable (w : World) (K : PySem.W.Frag) (p : Option V)
def tE (t : TDE) : TE := fun σ H Q => ∃ ρ G P, Fit w K p H σ ρ G ∧ t ρ P ∧ ∀ x ρ' v H' G' fp, P x ρ' → Fit w K p H' σ ρ' G' → Evo G H G' H' → Nw G H fp → RepOpd w K H' σ G' fp v x → Q v H'
def tT (t : TDT) : TT := fun σ H Q => ∃ ρ G P, Fit w K p H σ ρ G ∧ t ρ P ∧ ∀ b ρ' H' G', P b ρ' → Fit w K p H' σ ρ' G' → Evo G H G' H' → Q b H'
/-- several operands; their footprints apart -/
inductive RepOpds (w : World) (K : PySem.W.Frag) (H : Hp) (σ : St) (G : Fps) : List Addr → List V → List Opd → Prop
  | nil : RepOpds w K H σ G [] [] []
  | cons {fp gp v vs x xs} : RepOpd w K H σ G fp v x → (∀ a ∈ fp, a ∉ gp) → RepOpds w K H σ G gp vs xs → RepOpds w K H σ G (fp ++ gp) (v :: vs) (x :: xs)
def tA (t : TDA) : TA := fun σ H Q => ∃ ρ G P, Fit w K p H σ ρ G ∧ t ρ P ∧ ∀ xs ρ' vs H' G' fp, P xs ρ' → Fit w K p H' σ ρ' G' → Evo G H G' H' → Nw G H fp → RepOpds w K H' σ G' fp vs xs → Q vs H'
/-- the result of an operation by values: d, new -/
def Res (H : Hp) (d : D) (Q : VK) : Prop := ∀ v H' fp, Same H H' → (∀ a ∈ fp, H a = none) → fp.Nodup → Rep w K H' fp v d → Q v H'
/-- an operation of two values by a function of trees -/
def rD (f : D → D → Option D) : R2 := fun x y H Q => ∃ fx fy dx dy d, Rep w K H fx x dx ∧ Rep w K H fy y dy ∧ f dx dy = some d ∧ Res w K H d Q
def uD (f : D → Option D) : V → Hp → VK → Prop := fun x H Q => ∃ fx dx d, Rep w K H fx x dx ∧ f dx = some d ∧ Res w K H d Q
/-- values and trees, whatever they own -/
def RepAny (H : Hp) : List V → List D → Prop := Paired fun v d => ∃ fp, Rep w K H fp v d
def cD (f : List D → Option D) : List V → Hp → VK → Prop := fun vs H Q => ∃ ds d, RepAny w K H vs ds ∧ f ds = some d ∧ Res w K H d Q
end
theorem RepOpds.evo {w : World} {K : PySem.W.Frag} {p : Option V} {H H' : Hp} {σ : St} {ρ : Env} {G G' : Fps} (F : Fit w K p H σ ρ G) (e : Evo G H G' H') : ∀ {fp : List Addr} {vs : List V} {xs : List Opd}, RepOpds w K H σ G fp vs xs → RepOpds w K H' σ G' fp vs xs
  | _, _, _, .nil => .nil
  | _, _, _, .cons r n h => .cons (r.evo F e) n (RepOpds.evo F e h)
def getAll (ρ : Env) : List Opd → Option (List D)
  | [] => some []
  | x :: xs => match x.get ρ, getAll ρ xs with
    | some d, some ds => some (d :: ds)
    | _, _ => none
theorem RepOpds.any {w : World} {K : PySem.W.Frag} {p : Option V} {H : Hp} {σ : St} {ρ : Env} {G : Fps} (F : Fit w K p H σ ρ G) : ∀ {fp : List Addr} {vs : List V} {xs : List Opd} {ds : List D}, RepOpds w K H σ G fp vs xs → getAll ρ xs = some ds → RepAny w K H vs ds
  | _, _, _, _, .nil, h => by cases h; exact .nil
  | _, _, x :: xs, _, .cons r _ hr, h => by
    unfold getAll at h
    cases q : x.get ρ with
    | none => rw [q] at h; cases h
    | some d =>
      cases q2 : getAll ρ xs with
      | none => rw [q, q2] at h; cases h
      | some ds =>
        rw [q, q2] at h
        cases h
        exact .cons (r.rep F q) (RepOpds.any F hr q2)

/-! ### the readings' combinators -/
def dVar (i : Nat) : TDE := fun ρ Q => ∃ d, ρ.getD i none = some d ∧ Q (.slot i) ρ
def dC (d : D) : TDE := fun ρ Q => Q (.val d) ρ
def dBin (f : D → D → Option D) (ta tb : TDE) : TDE := fun ρ Q => ta ρ fun x ρ1 => tb ρ1 fun y ρ2 => ∃ dx, x.get ρ2 = some dx ∧ ∃ dy, y.get ρ2 = some dy ∧ ∃ d, f dx dy = some d ∧ Q (.val d) ρ2
def dUn (f : D → Option D) (ta : TDE) : TDE := fun ρ Q => ta ρ fun x ρ1 => ∃ dx, x.get ρ1 = some dx ∧ ∃ d, f dx = some d ∧ Q (.val d) ρ1
def dCall (f : List D → Option D) (t : TDA) : TDE := fun ρ Q => t ρ fun xs ρ1 => ∃ ds, getAll ρ1 xs = some ds ∧ ∃ d, f ds = some d ∧ Q (.val d) ρ1
def dNil : TDA := fun ρ Q => Q [] ρ
def dCons (te : TDE) (tr : TDA) : TDA := fun ρ Q => te ρ fun x ρ1 => tr ρ1 fun xs ρ2 => Q (x :: xs) ρ2
/-- what stood in a slot is frozen; a value is taken as it is -/
def takeO : Opd → Env → Option (D × Env)
  | .val d, ρ => some (d, ρ)
  | .slot i, ρ => (ρ.getD i none).map fun d => (d.fz, ρ.set i (some d.fz))
/-- frozen, whatever it was -/
def fzO : Opd → Env → Option (D × Env)
  | .val d, ρ => some (d.fz, ρ)
  | .slot i, ρ => (ρ.getD i none).map fun d => (d.fz, ρ.set i (some d.fz))
def dTake (t : TDE) : TDE := fun ρ Q => t ρ fun x ρ1 => ∃ d ρ2, takeO x ρ1 = some (d, ρ2) ∧ Q (.val d) ρ2
def dFz (t : TDE) : TDE := fun ρ Q => t ρ fun x ρ1 => ∃ d ρ2, fzO x ρ1 = some (d, ρ2) ∧ Q (.val d) ρ2

section
variable {X : Cx} {p : Option V}
theorem pd_var (i : Nat) {x : Str} {pos : Pos} (hN : X.N[i]? = some x := by rfl) (hv : Vis X.env.scope x := by first | exact Or.inl rfl | exact Or.inr (Or.inl rfl) | exact Or.inr (Or.inr rfl)) (hd : (x == ("__debug__" : Str)) = false := by decide)
    (hcd : (x == ("__classdict__" : Str)) = false := by decide) : PE X (.Name x pos) (tE X.w X.K p (dVar i)) := by
  refine PE.imp (pe_var hN hv hd hcd) fun σ H Q ⟨ρ, G, P, F, ⟨d, e, k⟩, c⟩ => ?_
  obtain ⟨v, ev, r⟩ := F.rep i d (getD_some e)
  exact ⟨v, ev, c _ _ v H G [] k F (.refl G H) .nil ⟨rfl, ev⟩⟩
theorem pd_const {e : Expr} {c : V} {d : D} (h : PE X e (tC c)) (r : ∀ H, Rep X.w X.K H [] c d) : PE X e (tE X.w X.K p (dC d)) := by
  refine PE.imp h fun σ H Q ⟨ρ, G, P, F, k, q⟩ => ?_
  exact q _ _ c H G [] k F (.refl G H) .nil ⟨r H, .nil, fun _ z => nomatch z⟩
theorem pd_int {i j pos} : PE X (.Constant (.int i) j pos) (tE X.w X.K p (dC (.int i))) := pd_const pe_int fun _ => .int _
theorem pd_bl {b j pos} : PE X (.Constant (.bool b) j pos) (tE X.w X.K p (dC (.bl b))) := pd_const pe_bl fun _ => .bl _
theorem pd_non {j pos} : PE X (.Constant .none j pos) (tE X.w X.K p (dC .non)) := pd_const pe_non fun _ => .non
theorem pd_str {x j pos} : PE X (.Constant (.str x) j pos) (tE X.w X.K p (dC (.str x))) := pd_const pe_str fun _ => .str _

/-- the end of an operation by values -/
theorem res_of {w : World} {K : PySem.W.Frag} {p : Option V} {H H2 : Hp} {σ : St} {ρ : Env} {G G2 : Fps} {d : D} {Q : VK} (F : Fit w K p H σ ρ G) (e : Evo G2 H2 G H)
    (k : ∀ v H' G' fp, Fit w K p H' σ ρ G' → Evo G2 H2 G' H' → Nw G2 H2 fp → RepOpd w K H' σ G' fp v (.val d) → Q v H') : Res w K H d Q := fun v H' fp s nf nd r =>
  k v H' G fp (F.grow s) (e.trans (.grow s)) (Nw.fresh fun a ha => e.free (nf a ha)) ⟨r, nd, fun a ha i => F.fresh (nf a ha) i⟩

/-- two operands in a row, then an operation by values -/
theorem two {ta tb : TDE} {r : R2} {f : D → D → Option D} (hr : ∀ x y H Q, rD X.w X.K f x y H Q → r x y H Q) {σ : St} {H : Hp} {Q : VK} (h : tE X.w X.K p (dBin f ta tb) σ H Q) : tOp r (tE X.w X.K p ta) (tE X.w X.K p tb) σ H Q := by
  obtain ⟨ρ, G, P, F, k, q⟩ := h
  refine ⟨ρ, G, _, F, k, fun x ρ1 v1 H1 G1 fp1 h1 F1 e1 n1 r1 => ⟨ρ1, G1, _, F1, h1, fun y ρ2 v2 H2 G2 fp2 h2 F2 e2 n2 r2 => ?_⟩⟩
  obtain ⟨dx, gx, dy, gy, d, e, pp⟩ := h2
  obtain ⟨fx, rx⟩ := (r1.evo F1 e2).rep F2 gx
  obtain ⟨fy, ry⟩ := r2.rep F2 gy
  exact hr _ _ _ _ ⟨fx, fy, dx, dy, d, rx, ry, e, res_of F2 (e1.trans e2) fun v H' G' fp => q _ _ v H' G' fp pp⟩
theorem pd_bin {op : Operator} {a b : Expr} {ta tb : TDE} {pos : Pos} {f : D → D → Option D} (ho : OpR X (binaryOp op) (rD X.w X.K f)) (ha : PE X a (tE X.w X.K p ta)) (hb : PE X b (tE X.w X.K p tb)) :
    PE X (.BinOp a op b pos) (tE X.w X.K p (dBin f ta tb)) := PE.imp (pe_op ho ha hb) fun _ _ _ h => two (fun _ _ _ _ z => z) h
theorem pd_cmp {op : CmpOp} {a b : Expr} {ta tb : TDE} {pos : Pos} {f : D → D → Option D} (ho : OpR X (compareOp op) (rD X.w X.K f)) (ha : PE X a (tE X.w X.K p ta)) (hb : PE X b (tE X.w X.K p tb)) (hm : behindInMarks op b = false := by first | rfl | exact nomark _) :
    PE X (.Compare a [op] [b] pos) (tE X.w X.K p (dBin f ta tb)) := PE.imp (pe_cmpR ho ha hb hm) fun _ _ _ h => two (fun _ _ _ _ z => z) h
theorem pd_un {op : UnaryOp} {a : Expr} {ta : TDE} {pos : Pos} {f : D → Option D} (ho : UnR X (unaryOp op) (uD X.w X.K f)) (ha : PE X a (tE X.w X.K p ta)) : PE X (.UnaryOp op a pos) (tE X.w X.K p (dUn f ta)) := by
  refine PE.imp (pe_un ho ha) fun σ H Q ⟨ρ, G, P, F, k, q⟩ => ⟨ρ, G, _, F, k, fun x ρ1 v1 H1 G1 fp1 h1 F1 e1 n1 r1 => ?_⟩
  obtain ⟨dx, gx, d, e, pp⟩ := h1
  obtain ⟨fx, rx⟩ := r1.rep F1 gx
  exact ⟨fx, dx, d, rx, e, res_of F1 e1 fun v H' G' fp => q _ _ v H' G' fp pp⟩

/-! ### arguments -/
theorem pda_nil : PA X [] (tA X.w X.K p dNil) := PA.imp pa_nil fun σ H Q ⟨ρ, G, P, F, k, q⟩ => q _ _ [] H G [] k F (.refl G H) .nil .nil
theorem pda_cons {e : Expr} {es : List Expr} {te : TDE} {t : TDA} (ha : PE X e (tE X.w X.K p te)) (hr : PA X es (tA X.w X.K p t)) (hs : starEach (e :: es) X.env = (false, eval e X.env) :: starEach es X.env := by rfl) : PA X (e :: es) (tA X.w X.K p (dCons te t)) := by
  refine PA.imp (pa_cons ha hr hs) fun σ H Q ⟨ρ, G, P, F, k, q⟩ => ⟨ρ, G, _, F, k, fun x ρ1 v1 H1 G1 fp1 h1 F1 e1 n1 r1 => ⟨ρ1, G1, _, F1, h1, fun xs ρ2 vs H2 G2 fp2 h2 F2 e2 n2 r2 => ?_⟩⟩
  refine q _ _ (v1 :: vs) H2 G2 (fp1 ++ fp2) h2 F2 (e1.trans e2) (n1.append (n2.back e1)) (.cons (r1.evo F1 e2) (fun a ha hb => ?_) r2)
  cases x with
  | val d =>
    obtain ⟨o, ho, _⟩ := r1.1.own d _ _ a ha
    exact n2.ne ho (r1.2.2 a ha) hb
  | slot i => rw [r1.1] at ha; cases ha
theorem pd_callB {x : Str} {p' pos : Pos} {e : Expr} {es : List Expr} {t : TDA} {id : String} {f : List D → Option D} (hc : CallR X (.builtin id) (cD X.w X.K f)) (hg : Gl X x) (hm : X.mg x = none) (hv : bootBuiltins x = some (.builtin id)) (ha : PA X (e :: es) (tA X.w X.K p t)) (hn : x ≠ "__name__" := by decide) (hdb : (x == ("__debug__" : Str)) = false := by decide)
    (he : starEach (e :: es) X.env = (false, eval e X.env) :: starEach es X.env := by rfl) (hpl : (backTo pos (starEach es X.env)).any (·.1) = false := by rfl) : PE X (.Call (.Name x p') (e :: es) [] pos) (tE X.w X.K p (dCall f t)) := by
  refine PE.imp (pe_callB hc hg hm hv ha hn hdb he hpl) fun σ H Q ⟨ρ, G, P, F, k, q⟩ => ⟨ρ, G, _, F, k, fun xs ρ1 vs H1 G1 fp1 h1 F1 e1 n1 r1 => ?_⟩
  obtain ⟨ds, g, d, e, pp⟩ := h1
  exact ⟨ds, d, r1.any F1 g, e, res_of F1 e1 fun v H' G' fp => q _ _ v H' G' fp pp⟩
theorem pd_callTy {x : Str} {p' pos : Pos} {e : Expr} {es : List Expr} {t : TDA} {T : String} {f : List D → Option D} (hc : CallR X (.type T) (cD X.w X.K f)) (hg : Gl X x) (hm : X.mg x = none) (hv : bootBuiltins x = some (.type T)) (ha : PA X (e :: es) (tA X.w X.K p t)) (hn : x ≠ "__name__" := by decide) (hdb : (x == ("__debug__" : Str)) = false := by decide)
    (he : starEach (e :: es) X.env = (false, eval e X.env) :: starEach es X.env := by rfl) (hpl : (backTo pos (starEach es X.env)).any (·.1) = false := by rfl) : PE X (.Call (.Name x p') (e :: es) [] pos) (tE X.w X.K p (dCall f t)) := by
  refine PE.imp (pe_callTy hc hg hm hv ha hn hdb he hpl) fun σ H Q ⟨ρ, G, P, F, k, q⟩ => ⟨ρ, G, _, F, k, fun xs ρ1 vs H1 G1 fp1 h1 F1 e1 n1 r1 => ?_⟩
  obtain ⟨ds, g, d, e, pp⟩ := h1
  exact ⟨ds, d, r1.any F1 g, e, res_of F1 e1 fun v H' G' fp => q _ _ v H' G' fp pp⟩
end
end KW
/-! KWc: freezing, tests, statements. -/
namespace KW
open PySem PySem.Spec L2
open PyProof.Rows hiding St

/-! ### freezing -/
theorem Inv.frzs {X : Cx} {pins : List (Addr × Obj)} {σ : St} {H : Hp} {s : Shared} (I : Inv X pins σ H s) : ∀ fp : List Addr, (∀ a ∈ fp, ∃ o, H a = some o ∧ OwnO o) → fp.Nodup → ∃ H', Inv X pins σ H' s ∧ FrzTo fp H H'
  | [], _, _ => ⟨H, I, fun _ _ => rfl, fun _ z => nomatch z⟩
  | a :: fp, ho, nd => by
    obtain ⟨H1, I1, k1, f1⟩ := Inv.frzs I fp (fun b hb => ho b (List.mem_cons_of_mem _ hb)) (List.nodup_cons.mp nd).2
    obtain ⟨o, e, ow⟩ := ho a List.mem_cons_self
    have na : a ∉ fp := (List.nodup_cons.mp nd).1
    obtain ⟨od, I2⟩ := I1.lock (by rw [k1 a na]; exact e) ow.mut
    refine ⟨_, I2, fun b hb => ?_, fun b hb u hu => ?_⟩
    · have h1 : b ≠ a := fun z => hb (by rw [z]; exact List.mem_cons_self)
      have h2 : b ∉ fp := fun z => hb (List.mem_cons_of_mem _ z)
      rw [upd_ne h1]; exact k1 b h2
    · rcases List.mem_cons.mp hb with rfl | hb
      · rw [e] at hu; cases hu
        exact ⟨od, upd_same⟩
      · have h1 : b ≠ a := fun z => na (by rw [← z]; exact hb)
        obtain ⟨ob, q⟩ := f1 b hb u hu
        exact ⟨ob, by rw [upd_ne h1]; exact q⟩
def setF (G : Fps) (i : Nat) (l : List Addr) : Fps := fun j => if j = i then l else G j
theorem setF_same {G : Fps} {i : Nat} {l : List Addr} : setF G i l i = l := by unfold setF; rw [if_pos rfl]
theorem setF_ne {G : Fps} {i j : Nat} {l : List Addr} (h : j ≠ i) : setF G i l j = G j := by unfold setF; rw [if_neg h]
section
variable {w : World} {K : PySem.W.Frag} {p : Option V} {H H' H0 : Hp} {σ : St} {ρ : Env} {G G' G0 : Fps} {fp : List Addr}
theorem FrzTo.perm (z : FrzTo fp H H') (ho : ∀ a ∈ fp, ∃ o, H a = some o ∧ OwnO o) : ∀ a o, H a = some o → Perm o → H' a = some o := fun a o e pm => by
  rw [z.1 a fun ha => ?_]
  · exact e
  · obtain ⟨o', e', ow⟩ := ho a ha
    rw [e] at e'; cases e'
    exact ow.np pm
theorem FrzTo.dom (z : FrzTo fp H H') : ∀ a o, H a = some o → ∃ o', H' a = some o' := fun a o e => by
  by_cases ha : a ∈ fp
  · obtain ⟨ob, q⟩ := z.2 a ha o e
    exact ⟨_, q⟩
  · exact ⟨o, by rw [z.1 a ha]; exact e⟩
/-- the tree of a slot is set; its nodes at l -/
theorem Fit.put (F : Fit w K p H σ ρ G) {i : Nat} {v : V} {d : D} {l : List Addr} (hi : i < ρ.length) (r : Rep w K H l v d) (nd : l.Nodup) (ap : ∀ a ∈ l, ∀ j, j ≠ i → a ∉ G j) (hp : ∀ u, p = some u → i = 0 → v = u) :
    Fit w K p H (σ.set i (some v)) (ρ.set i (some d)) (setF G i l) where
  rep := fun j d' h => by
    by_cases e : j = i
    · subst e
      rw [List.getElem?_set_self hi] at h
      cases h
      exact ⟨v, List.getElem?_set_self (by rw [← F.len]; exact hi), by rw [setF_same]; exact r⟩
    · rw [List.getElem?_set_ne (Ne.symm e)] at h
      obtain ⟨u, h1, h2⟩ := F.rep j d' h
      exact ⟨u, by rw [List.getElem?_set_ne (Ne.symm e)]; exact h1, by rw [setF_ne e]; exact h2⟩
  emp := fun j h => by
    by_cases e : j = i
    · subst e
      exact absurd (List.getElem?_set_self hi) (h d)
    · rw [setF_ne e]
      exact F.emp j fun d' z => h d' (by rw [List.getElem?_set_ne (Ne.symm e)]; exact z)
  nod := fun j => by
    by_cases e : j = i
    · subst e; rw [setF_same]; exact nd
    · rw [setF_ne e]; exact F.nod j
  dj := fun j k a hj hk => by
    by_cases e : j = i
    · subst e
      by_cases e2 : k = j
      · exact e2.symm
      · rw [setF_same] at hj
        rw [setF_ne e2] at hk
        exact absurd hk (ap a hj k e2)
    · rw [setF_ne e] at hj
      by_cases e2 : k = i
      · subst e2
        rw [setF_same] at hk
        exact absurd hj (ap a hk j e)
      · rw [setF_ne e2] at hk
        exact F.dj j k a hj hk
  len := by rw [List.length_set, List.length_set]; exact F.len
  pin := fun u e => by
    by_cases h0 : i = 0
    · subst h0
      rw [hp u e rfl]
      exact List.getElem?_set_self (by rw [← F.len]; exact hi)
    · rw [List.getElem?_set_ne h0]; exact F.pin u e
/-- the same value, another tree of it -/
theorem Fit.re (F : Fit w K p H σ ρ G) {i : Nat} {v : V} {d : D} {l : List Addr} (hv : σ[i]? = some (some v)) (r : Rep w K H l v d) (nd : l.Nodup) (ap : ∀ a ∈ l, ∀ j, j ≠ i → a ∉ G j) :
    Fit w K p H σ (ρ.set i (some d)) (setF G i l) := by
  have hi : i < ρ.length := by rw [F.len]; exact (List.getElem?_eq_some_iff.mp hv).1
  have e : σ.set i (some v) = σ := List.ext_getElem? fun j => by
    by_cases e : j = i
    · subst e; rw [List.getElem?_set_self (by rw [← F.len]; exact hi), hv]
    · rw [List.getElem?_set_ne (Ne.symm e)]
  have q := F.put hi r nd ap fun u hu h0 => by
    subst h0
    have := F.pin u hu
    rw [hv] at this; cases this; rfl
  rw [e] at q
  exact q
/-- a slot is given up -/
theorem Fit.drop (F : Fit w K p H σ ρ G) (i : Nat) : Fit w K p H σ (ρ.set i none) (setF G i []) where
  rep := fun j d' h => by
    by_cases e : j = i
    · subst e
      by_cases hi : j < ρ.length
      · rw [List.getElem?_set_self hi] at h; cases h
      · rw [List.getElem?_eq_none (by simpa using hi)] at h; cases h
    · rw [List.getElem?_set_ne (Ne.symm e)] at h
      obtain ⟨u, h1, h2⟩ := F.rep j d' h
      exact ⟨u, h1, by rw [setF_ne e]; exact h2⟩
  emp := fun j h => by
    by_cases e : j = i
    · subst e; exact setF_same
    · rw [setF_ne e]
      exact F.emp j fun d' z => h d' (by rw [List.getElem?_set_ne (Ne.symm e)]; exact z)
  nod := fun j => by
    by_cases e : j = i
    · subst e; rw [setF_same]; exact .nil
    · rw [setF_ne e]; exact F.nod j
  dj := fun j k a hj hk => by
    by_cases e : j = i
    · subst e; rw [setF_same] at hj; cases hj
    · rw [setF_ne e] at hj
      by_cases e2 : k = i
      · subst e2; rw [setF_same] at hk; cases hk
      · rw [setF_ne e2] at hk
        exact F.dj j k a hj hk
  len := by rw [List.length_set]; exact F.len
  pin := F.pin
theorem Evo.sub (e : Evo G0 H0 G H) (h : ∀ i a, a ∈ G' i → ∃ j, a ∈ G j) : Evo G0 H0 G' H := ⟨e.keep, fun i a z => let ⟨j, q⟩ := h i a z; e.new j a q, e.dom⟩
theorem sub_setF_nil {i : Nat} : ∀ k a, a ∈ setF G i [] k → ∃ j, a ∈ G j := fun k a z => by
  by_cases e : k = i
  · subst e; rw [setF_same] at z; cases z
  · rw [setF_ne e] at z; exact ⟨k, z⟩
/-- freezing what stands in a slot -/
theorem Fit.freeze (F : Fit w K p H σ ρ G) {i : Nat} {d : D} (h : ρ.getD i none = some d) (z : FrzTo (G i) H H') : Fit w K p H' σ (ρ.set i (some d.fz)) (setF G i []) ∧ ∃ v, σ[i]? = some (some v) ∧ Rep w K H' [] v d.fz := by
  obtain ⟨v, e, r⟩ := F.rep i d (getD_some h)
  have pm := z.perm fun a ha => F.own ha
  have r' : Rep w K H' [] v d.fz := r.frz pm d _ _ z.2
  have F' : Fit w K p H' σ (ρ.set i none) (setF G i []) := by
    have F1 := F.drop i
    refine ⟨fun j d' q => ?_, F1.emp, F1.nod, F1.dj, F1.len, F1.pin⟩
    obtain ⟨u, q1, q2⟩ := F1.rep j d' q
    refine ⟨u, q1, q2.mono pm d' _ _ fun a ha o ho => ?_⟩
    rw [z.1 a fun hi => ?_]
    · exact ho
    · by_cases ej : j = i
      · subst ej; rw [setF_same] at ha; cases ha
      · rw [setF_ne ej] at ha; exact ej (F.dj j i a ha hi)
  have q := F'.re e r' .nil (fun _ z => nomatch z)
  have e1 : (ρ.set i none).set i (some d.fz) = ρ.set i (some d.fz) := by simp
  have e2 : setF (setF G i []) i [] = setF G i [] := by funext j; unfold setF; split <;> rfl
  rw [e1, e2] at q
  exact ⟨q, v, e, r'⟩
theorem Evo.freeze (F : Fit w K p H σ ρ G) {i : Nat} (z : FrzTo (G i) H H') : Evo G H (setF G i []) H' :=
  ⟨fun a o e n => by rw [z.1 a (n i)]; exact e, fun k a h => .inl (sub_setF_nil k a h), z.dom⟩
/-- freezing a new value -/
theorem Evo.frz (e : Evo G0 H0 G H) (nf : Nw G0 H0 fp) (z : FrzTo fp H H') : Evo G0 H0 G H' where
  keep := fun a o h n => by
    rw [z.1 a (nf.ne h n)]
    exact e.keep a o h n
  new := e.new
  dom := fun a o h => by
    obtain ⟨o1, h1⟩ := e.dom a o h
    exact z.dom a o1 h1
theorem Fit.frz (F : Fit w K p H σ ρ G) (ap : ∀ a ∈ fp, ∀ i, a ∉ G i) (z : FrzTo fp H H') (ho : ∀ a ∈ fp, ∃ o, H a = some o ∧ OwnO o) : Fit w K p H' σ ρ G := by
  have pm := z.perm ho
  refine ⟨fun j d' q => ?_, F.emp, F.nod, F.dj, F.len, F.pin⟩
  obtain ⟨u, q1, q2⟩ := F.rep j d' q
  refine ⟨u, q1, q2.mono pm d' _ _ fun a ha o h => ?_⟩
  rw [z.1 a fun hi => ap a hi j ha]
  exact h
end
section
variable {X : Cx} {p : Option V} {e : Expr} {t : TDE}
/-- a reading behind which something new may be frozen -/
theorem pe_ghost {t t' : TE} (h : PE X e t) (m : ∀ σ H Q, t' σ H Q → t σ H fun v H1 => ∃ fp : List Addr, (∀ a ∈ fp, ∃ o, H1 a = some o ∧ OwnO o) ∧ fp.Nodup ∧ ∀ H2, FrzTo fp H1 H2 → Q v H2) : PE X e t' := by
  refine ⟨fun pins s σ H Q I q => thn (h.run pins s σ H _ I (m σ H Q q)) fun u s1 ⟨v, H1, I1, r1, fp, ho, nd, k⟩ => ?_⟩
  obtain ⟨H2, I2, z⟩ := Inv.frzs I1 fp ho nd
  exact ⟨v, H2, I2, r1, k H2 z⟩
theorem pd_fz (h : PE X e (tE X.w X.K p t)) : PE X e (tE X.w X.K p (dFz t)) := by
  refine pe_ghost h fun σ H Q ⟨ρ, G, P, F, k, q⟩ => ⟨ρ, G, _, F, k, fun x ρ1 v1 H1 G1 fp1 h1 F1 e1 n1 r1 => ?_⟩
  obtain ⟨d, ρ2, g, pp⟩ := h1
  cases x with
  | val d' =>
    cases g
    obtain ⟨r, nd, ap⟩ := r1
    have ho := r.own d' _ _
    refine ⟨fp1, ho, nd, fun H2 z => ?_⟩
    exact q _ _ v1 H2 G1 [] pp (F1.frz ap z ho) (e1.frz n1 z) .nil ⟨r.frz (z.perm ho) d' _ _ z.2, .nil, fun _ z => nomatch z⟩
  | slot i =>
    simp only [fzO, Option.map_eq_some_iff] at g
    obtain ⟨d', g, e⟩ := g
    cases e
    refine ⟨G1 i, fun a ha => F1.own ha, F1.nod i, fun H2 z => ?_⟩
    obtain ⟨F2, v, ev, r2⟩ := F1.freeze g z
    rw [r1.2] at ev; cases ev
    exact q _ _ v1 H2 _ [] pp F2 (e1.trans (Evo.freeze F1 z)) .nil ⟨r2, .nil, fun _ z => nomatch z⟩
theorem pd_take (h : PE X e (tE X.w X.K p t)) : PE X e (tE X.w X.K p (dTake t)) := by
  refine pe_ghost h fun σ H Q ⟨ρ, G, P, F, k, q⟩ => ⟨ρ, G, _, F, k, fun x ρ1 v1 H1 G1 fp1 h1 F1 e1 n1 r1 => ?_⟩
  obtain ⟨d, ρ2, g, pp⟩ := h1
  cases x with
  | val d' =>
    cases g
    refine ⟨[], (fun _ z => nomatch z), .nil, fun H2 z => ?_⟩
    have eH : H2 = H1 := funext fun a => z.1 a List.not_mem_nil
    subst eH
    exact q _ _ v1 H2 G1 fp1 pp F1 e1 n1 r1
  | slot i =>
    simp only [takeO, Option.map_eq_some_iff] at g
    obtain ⟨d', g, e⟩ := g
    cases e
    refine ⟨G1 i, fun a ha => F1.own ha, F1.nod i, fun H2 z => ?_⟩
    obtain ⟨F2, v, ev, r2⟩ := F1.freeze g z
    rw [r1.2] at ev; cases ev
    exact q _ _ v1 H2 _ [] pp F2 (e1.trans (Evo.freeze F1 z)) .nil ⟨r2, .nil, fun _ z => nomatch z⟩
end

/-! ### tests -/
def truD : D → Option Bool
  | .non => some false
  | .bl b => some b
  | .int i => some (i != 0)
  | .str s => if s.length ≤ sizeLine then some ((s.length : Int) != 0) else none
  | .tup ds => some (!ds.isEmpty)
  | .lst _ ds => some (!ds.isEmpty)
  | .dct _ _ => none
  | .opq _ => none
def dTru (te : TDE) : TDT := fun ρ Q => te ρ fun x ρ1 => ∃ d, x.get ρ1 = some d ∧ ∃ b, truD d = some b ∧ Q b ρ1
def dTst (te : TDE) : TDT := fun ρ Q => te ρ fun x ρ1 => ∃ b, x.get ρ1 = some (.bl b) ∧ Q b ρ1
def dAnd (t u : TDT) : TDT := fun ρ Q => t ρ fun b ρ1 => if b = true then u ρ1 Q else Q false ρ1
def dOr (t u : TDT) : TDT := fun ρ Q => t ρ fun b ρ1 => if b = true then Q true ρ1 else u ρ1 Q
def dNot (t : TDT) : TDT := fun ρ Q => t ρ fun b ρ1 => Q (!b) ρ1
def dAndV (ta tb : TDE) : TDE := fun ρ Q => ta ρ fun x ρ1 => ∃ b, x.get ρ1 = some (.bl b) ∧ if b = true then tb ρ1 Q else Q (.val (.bl false)) ρ1
def dOrV (ta tb : TDE) : TDE := fun ρ Q => ta ρ fun x ρ1 => ∃ b, x.get ρ1 = some (.bl b) ∧ if b = true then Q (.val (.bl true)) ρ1 else tb ρ1 Q
def dNotV (ta : TDE) : TDE := fun ρ Q => ta ρ fun x ρ1 => ∃ b, x.get ρ1 = some (.bl b) ∧ Q (.val (.bl (!b))) ρ1
def dIf (t : TDT) (ta tb : TDE) : TDE := fun ρ Q => t ρ fun b ρ1 => if b = true then ta ρ1 Q else tb ρ1 Q
def dChain (f f' : D → D → Option D) (ta tb tc : TDE) : TDE := fun ρ Q => ta ρ fun x ρ1 => tb ρ1 fun y ρ2 => ∃ dx, x.get ρ2 = some dx ∧ ∃ dy, y.get ρ2 = some dy ∧ ∃ b, f dx dy = some (.bl b) ∧
  if b = true then tc ρ2 fun z ρ3 => ∃ dy, y.get ρ3 = some dy ∧ ∃ dz, z.get ρ3 = some dz ∧ ∃ d, f' dy dz = some d ∧ Q (.val d) ρ3 else Q (.val (.bl false)) ρ2
theorem Reps.length {w : World} {K : PySem.W.Frag} {H : Hp} : ∀ {fp : List Addr} {vs : List V} {ds : List D}, Reps w K H fp vs ds → vs.length = ds.length
  | _, _, _, .nil => rfl
  | _, _, _, .cons _ h => by simp [Reps.length h]
theorem Reps.isEmpty {w : World} {K : PySem.W.Frag} {H : Hp} {fp : List Addr} {vs : List V} {ds : List D} (h : Reps w K H fp vs ds) : vs.isEmpty = ds.isEmpty := by cases h <;> rfl
theorem truD_ok {w : World} {K : PySem.W.Frag} {H : Hp} {fp : List Addr} {v : V} {d : D} {b : Bool} (r : Rep w K H fp v d) (h : truD d = some b) : TruV K v H b := by
  cases r with
  | non => cases h; rfl
  | bl b => cases h; rfl
  | int i => cases h; rfl
  | str s =>
    have h : (if s.length ≤ sizeLine then some ((s.length : Int) != 0) else none) = some b := h
    split at h
    · cases h; exact ⟨by assumption, rfl⟩
    · cases h
  | opq v => cases h
  | tup h1 h2 => cases h; exact .inr (.inl ⟨_, h1, by rw [h2.isEmpty]⟩)
  | lstF h1 h2 => cases h; exact .inl ⟨_, h1.sq, by rw [h2.isEmpty]⟩
  | lstO h1 h2 => cases h; exact .inl ⟨_, SqL.of h1, by rw [h2.isEmpty]⟩
  | dctF _ _ _ => cases h
  | dctO _ _ _ => cases h
section
variable {X : Cx} {p : Option V} {a b c : Expr} {rest : List Expr} {ta tb tc : TDE} {t u : TDT} {pos : Pos}
theorem pd_tru (ha : PE X a (tE X.w X.K p ta)) (he : ∀ whole, isTrue a X.env whole = (do let v ← whole; standAt a.pos; holding [v] (truthy v)) := by intro _; rfl) : PT X a (tT X.w X.K p (dTru ta)) := by
  refine PT.imp (pt_truth ha he) fun σ H Q ⟨ρ, G, P, F, k, q⟩ => ⟨ρ, G, _, F, k, fun x ρ1 v1 H1 G1 fp1 h1 F1 e1 n1 r1 => ?_⟩
  obtain ⟨d, g, b, e, pp⟩ := h1
  obtain ⟨fx, rx⟩ := r1.rep F1 g
  exact ⟨b, truD_ok rx e, q _ _ H1 G1 pp F1 e1⟩
/-- a test that reads a boolean -/
theorem tst {σ : St} {H : Hp} {Q : Bool → Hp → Prop} {te : TDE} (h : tT X.w X.K p (dTst te) σ H Q) : tE X.w X.K p te σ H fun x H' => ∃ k, x = .bl k ∧ Q k H' := by
  obtain ⟨ρ, G, P, F, k, q⟩ := h
  refine ⟨ρ, G, _, F, k, fun x ρ1 v1 H1 G1 fp1 h1 F1 e1 n1 r1 => ?_⟩
  obtain ⟨b, g, pp⟩ := h1
  obtain ⟨fx, rx⟩ := r1.rep F1 g
  cases rx
  exact ⟨b, rfl, q _ _ H1 G1 pp F1 e1⟩
theorem pdt_cmp {op : CmpOp} {f : D → D → Option D} (ho : OpR X (compareOp op) (rD X.w X.K f)) (ha : PE X a (tE X.w X.K p ta)) (hb : PE X b (tE X.w X.K p tb)) (hm : behindInMarks op b = false := by first | rfl | exact nomark _) :
    PT X (.Compare a [op] [b] pos) (tT X.w X.K p (dTst (dBin f ta tb))) := PT.imp (pt_cmpR ho ha hb hm) fun _ _ _ h => two (fun _ _ _ _ z => z) (tst h)
theorem chain {f f' : D → D → Option D} {σ : St} {H : Hp} {Q : VK} (h : tE X.w X.K p (dChain f f' ta tb tc) σ H Q) : tChain (rD X.w X.K f) (rD X.w X.K f') (tE X.w X.K p ta) (tE X.w X.K p tb) (tE X.w X.K p tc) σ H Q := by
  obtain ⟨ρ, G, P, F, k, q⟩ := h
  refine ⟨ρ, G, _, F, k, fun x ρ1 v1 H1 G1 fp1 h1 F1 e1 n1 r1 => ⟨ρ1, G1, _, F1, h1, fun y ρ2 v2 H2 G2 fp2 h2 F2 e2 n2 r2 => ?_⟩⟩
  obtain ⟨dx, gx, dy, gy, b, e, pp⟩ := h2
  obtain ⟨fx, rx⟩ := (r1.evo F1 e2).rep F2 gx
  obtain ⟨fy, ry⟩ := r2.rep F2 gy
  refine ⟨fx, fy, dx, dy, _, rx, ry, e, fun v H' fp s nf nd r => ?_⟩
  cases r
  refine ⟨b, rfl, ?_⟩
  cases b with
  | false => exact q _ _ (.bl false) H' G2 [] pp (F2.grow s) ((e1.trans e2).trans (.grow s)) .nil ⟨.bl _, .nil, fun _ z => nomatch z⟩
  | true =>
    refine ⟨ρ2, G2, _, F2.grow s, pp, fun z ρ3 v3 H3 G3 fp3 h3 F3 e3 n3 r3 => ?_⟩
    obtain ⟨dy', gy', dz, gz, d, e', p3⟩ := h3
    obtain ⟨fy', ry'⟩ := (r2.evo F2 ((Evo.grow s).trans e3)).rep F3 gy'
    obtain ⟨fz, rz⟩ := r3.rep F3 gz
    exact ⟨fy', fz, dy', dz, d, ry', rz, e', res_of F3 (((e1.trans e2).trans (.grow s)).trans e3) fun v H' G' fp => q _ _ v H' G' fp p3⟩
theorem pd_chain {op op' : CmpOp} {f f' : D → D → Option D} (ho : OpR X (compareOp op) (rD X.w X.K f)) (ho' : OpR X (compareOp op') (rD X.w X.K f')) (ha : PE X a (tE X.w X.K p ta)) (hb : PE X b (tE X.w X.K p tb)) (hc : PE X c (tE X.w X.K p tc))
    (hm : lastMarks [op, op'] [b, c] = false := by with_unfolding_all rfl) : PE X (.Compare a [op, op'] [b, c] pos) (tE X.w X.K p (dChain f f' ta tb tc)) := PE.imp (pe_chain ho ho' ha hb hc hm) fun _ _ _ h => chain h
theorem pdt_chain {op op' : CmpOp} {f f' : D → D → Option D} (ho : OpR X (compareOp op) (rD X.w X.K f)) (ho' : OpR X (compareOp op') (rD X.w X.K f')) (ha : PE X a (tE X.w X.K p ta)) (hb : PE X b (tE X.w X.K p tb)) (hc : PE X c (tE X.w X.K p tc))
    (hm : lastMarks [op, op'] [b, c] = false := by with_unfolding_all rfl) : PT X (.Compare a [op, op'] [b, c] pos) (tT X.w X.K p (dTst (dChain f f' ta tb tc))) := PT.imp (pt_chain ho ho' ha hb hc hm) fun _ _ _ h => chain (tst h)
theorem pdw_and1 (ha : PT X a (tT X.w X.K p t)) : PW X (.BoolOp .And [a] pos) (tT X.w X.K p t) := pw_and1 ha
theorem pdw_or1 (ha : PT X a (tT X.w X.K p t)) : PW X (.BoolOp .Or [a] pos) (tT X.w X.K p t) := pw_or1 ha
theorem pdw_and (ha : PT X a (tT X.w X.K p t)) (hb : PW X (.BoolOp .And (b :: rest) pos) (tT X.w X.K p u)) : PW X (.BoolOp .And (a :: b :: rest) pos) (tT X.w X.K p (dAnd t u)) := by
  refine PW.imp (pw_and ha hb) fun σ H Q ⟨ρ, G, P, F, k, q⟩ => ⟨ρ, G, _, F, k, fun b ρ1 H1 G1 h1 F1 e1 => ?_⟩
  cases b with
  | true => exact ⟨ρ1, G1, P, F1, h1, fun b ρ2 H2 G2 h2 F2 e2 => q _ _ H2 G2 h2 F2 (e1.trans e2)⟩
  | false => exact q _ _ H1 G1 h1 F1 e1
theorem pdw_or (ha : PT X a (tT X.w X.K p t)) (hb : PW X (.BoolOp .Or (b :: rest) pos) (tT X.w X.K p u)) : PW X (.BoolOp .Or (a :: b :: rest) pos) (tT X.w X.K p (dOr t u)) := by
  refine PW.imp (pw_or ha hb) fun σ H Q ⟨ρ, G, P, F, k, q⟩ => ⟨ρ, G, _, F, k, fun b ρ1 H1 G1 h1 F1 e1 => ?_⟩
  cases b with
  | false => exact ⟨ρ1, G1, P, F1, h1, fun b ρ2 H2 G2 h2 F2 e2 => q _ _ H2 G2 h2 F2 (e1.trans e2)⟩
  | true => exact q _ _ H1 G1 h1 F1 e1
theorem pdt_bool {e : Expr} (h : PW X e (tT X.w X.K p t)) : PT X e (tT X.w X.K p t) := h.pt
theorem pdt_not (ha : PT X a (tT X.w X.K p t)) : PT X (.UnaryOp .Not a pos) (tT X.w X.K p (dNot t)) := by
  refine PT.imp (pt_not ha) fun σ H Q ⟨ρ, G, P, F, k, q⟩ => ⟨ρ, G, _, F, k, fun b ρ1 H1 G1 h1 F1 e1 => q _ _ H1 G1 h1 F1 e1⟩
theorem pd_one {op} (h : PE X a (tE X.w X.K p ta)) : PE X (.BoolOp op [a] pos) (tE X.w X.K p ta) := pe_one h
theorem pd_and (ha : PE X a (tE X.w X.K p ta)) (hb : PE X (.BoolOp .And (b :: rest) pos) (tE X.w X.K p tb)) : PE X (.BoolOp .And (a :: b :: rest) pos) (tE X.w X.K p (dAndV ta tb)) := by
  refine PE.imp (pe_and ha hb) fun σ H Q ⟨ρ, G, P, F, k, q⟩ => ⟨ρ, G, _, F, k, fun x ρ1 v1 H1 G1 fp1 h1 F1 e1 n1 r1 => ?_⟩
  obtain ⟨b, g, pp⟩ := h1
  obtain ⟨fx, rx⟩ := r1.rep F1 g
  cases rx
  refine ⟨b, rfl, ?_⟩
  cases b with
  | true => exact ⟨ρ1, G1, P, F1, pp, fun y ρ2 v2 H2 G2 fp2 h2 F2 e2 n2 r2 => q _ _ v2 H2 G2 fp2 h2 F2 (e1.trans e2) (n2.back e1) r2⟩
  | false => exact q _ _ _ H1 G1 [] pp F1 e1 .nil ⟨.bl _, .nil, fun _ z => nomatch z⟩
theorem pd_or (ha : PE X a (tE X.w X.K p ta)) (hb : PE X (.BoolOp .Or (b :: rest) pos) (tE X.w X.K p tb)) : PE X (.BoolOp .Or (a :: b :: rest) pos) (tE X.w X.K p (dOrV ta tb)) := by
  refine PE.imp (pe_or ha hb) fun σ H Q ⟨ρ, G, P, F, k, q⟩ => ⟨ρ, G, _, F, k, fun x ρ1 v1 H1 G1 fp1 h1 F1 e1 n1 r1 => ?_⟩
  obtain ⟨b, g, pp⟩ := h1
  obtain ⟨fx, rx⟩ := r1.rep F1 g
  cases rx
  refine ⟨b, rfl, ?_⟩
  cases b with
  | false => exact ⟨ρ1, G1, P, F1, pp, fun y ρ2 v2 H2 G2 fp2 h2 F2 e2 n2 r2 => q _ _ v2 H2 G2 fp2 h2 F2 (e1.trans e2) (n2.back e1) r2⟩
  | true => exact q _ _ _ H1 G1 [] pp F1 e1 .nil ⟨.bl _, .nil, fun _ z => nomatch z⟩
theorem pd_not (ha : PE X a (tE X.w X.K p ta)) : PE X (.UnaryOp .Not a pos) (tE X.w X.K p (dNotV ta)) := by
  refine PE.imp (pe_not ha) fun σ H Q ⟨ρ, G, P, F, k, q⟩ => ⟨ρ, G, _, F, k, fun x ρ1 v1 H1 G1 fp1 h1 F1 e1 n1 r1 => ?_⟩
  obtain ⟨b, g, pp⟩ := h1
  obtain ⟨fx, rx⟩ := r1.rep F1 g
  cases rx
  exact ⟨b, rfl, q _ _ _ H1 G1 [] pp F1 e1 .nil ⟨.bl _, .nil, fun _ z => nomatch z⟩⟩
theorem pd_ifExp (hc : PT X c (tT X.w X.K p t)) (ha : PE X a (tE X.w X.K p ta)) (hb : PE X b (tE X.w X.K p tb)) : PE X (.IfExp c a b pos) (tE X.w X.K p (dIf t ta tb)) := by
  refine PE.imp (pe_ifExp hc ha hb) fun σ H Q ⟨ρ, G, P, F, k, q⟩ => ⟨ρ, G, _, F, k, fun b ρ1 H1 G1 h1 F1 e1 => ?_⟩
  cases b with
  | true => exact ⟨ρ1, G1, P, F1, h1, fun y ρ2 v2 H2 G2 fp2 h2 F2 e2 n2 r2 => q _ _ v2 H2 G2 fp2 h2 F2 (e1.trans e2) (n2.back e1) r2⟩
  | false => exact ⟨ρ1, G1, P, F1, h1, fun y ρ2 v2 H2 G2 fp2 h2 F2 e2 n2 r2 => q _ _ v2 H2 G2 fp2 h2 F2 (e1.trans e2) (n2.back e1) r2⟩
end
end KW
/-! KWd: displays, statements, targets, loops, comprehensions. -/
namespace KW
open PySem PySem.Spec L2
open PyProof.Rows hiding St

theorem Reps.cons_inv {w : World} {K : PySem.W.Frag} {H : Hp} {fp : List Addr} {us : List V} {d : D} {ds : List D} (r : Reps w K H fp us (d :: ds)) : ∃ v vs f g, us = v :: vs ∧ fp = f ++ g ∧ Rep w K H f v d ∧ Reps w K H g vs ds := by
  cases r with
  | cons h1 h2 => exact ⟨_, _, _, _, rfl, rfl, h1, h2⟩
theorem Reps.nil_inv {w : World} {K : PySem.W.Frag} {H : Hp} {fp : List Addr} {us : List V} (r : Reps w K H fp us []) : fp = [] ∧ us = [] := by
  cases r; exact ⟨rfl, rfl⟩
theorem Reps.cons0 {w : World} {K : PySem.W.Frag} {H : Hp} {us : List V} {d : D} {ds : List D} (r : Reps w K H [] us (d :: ds)) : ∃ v vs, us = v :: vs ∧ Rep w K H [] v d ∧ Reps w K H [] vs ds := by
  obtain ⟨v, vs, f, g, e, e2, h1, h2⟩ := r.cons_inv
  obtain ⟨ef, eg⟩ := List.append_eq_nil_iff.mp e2.symm
  subst ef eg
  exact ⟨v, vs, e, h1, h2⟩

/-! ### displays -/
def takeAll : List Opd → Env → Option (List D × Env)
  | [], ρ => some ([], ρ)
  | x :: xs, ρ => match takeO x ρ with
    | some (d, ρ1) => (takeAll xs ρ1).map fun q => (d :: q.1, q.2)
    | none => none
/-- the items, taken one by one -/
abbrev TDZ := Env → (List D → Env → Prop) → Prop
def zNil : TDZ := fun ρ Q => Q [] ρ
def zTake (te : TDE) (tr : TDZ) : TDZ := fun ρ Q => te ρ fun x ρ1 => ∃ d ρ2, takeO x ρ1 = some (d, ρ2) ∧ tr ρ2 fun ds ρ3 => Q (d :: ds) ρ3
def zFz (te : TDE) (tr : TDZ) : TDZ := fun ρ Q => te ρ fun x ρ1 => ∃ d ρ2, fzO x ρ1 = some (d, ρ2) ∧ tr ρ2 fun ds ρ3 => Q (d :: ds) ρ3
section
variable (w : World) (K : PySem.W.Frag) (p : Option V)
/-- values taken: their nodes are nowhere else -/
def tZ (t : TDZ) : TA := fun σ H Q => ∃ ρ G P, Fit w K p H σ ρ G ∧ t ρ P ∧ ∀ ds ρ' vs H' G' fp, P ds ρ' → Fit w K p H' σ ρ' G' → Evo G H G' H' → Nw G H fp → Reps w K H' fp vs ds → fp.Nodup → (∀ a ∈ fp, ∀ i, a ∉ G' i) → Q vs H'
end
/-- what is wanted of a value -/
def onVal (P : D → Env → Prop) : Opd → Env → Prop
  | .val d, ρ => P d ρ
  | .slot _, _ => False
section
variable {X : Cx} {p : Option V} {e : Expr} {es : List Expr} {te : TDE} {t : TDZ} {pos : Pos}
theorem pz_nil : PA X [] (tZ X.w X.K p zNil) := PA.imp pa_nil fun σ H Q ⟨ρ, G, P, F, k, q⟩ => q _ _ [] H G [] k F (.refl G H) .nil .nil .nil (fun _ z => nomatch z)
theorem pz_go {te' : TDE} {t' : TDZ} (ha : PE X e (tE X.w X.K p te')) (hr : PA X es (tZ X.w X.K p t)) (m : ∀ ρ P, t' ρ P → te' ρ (onVal fun d ρ2 => t ρ2 fun ds ρ3 => P (d :: ds) ρ3))
    (hs : starEach (e :: es) X.env = (false, eval e X.env) :: starEach es X.env := by rfl) : PA X (e :: es) (tZ X.w X.K p t') := by
  refine PA.imp (pa_cons ha hr hs) fun σ H Q ⟨ρ, G, P, F, k, q⟩ => ⟨ρ, G, _, F, m ρ P k, fun x ρ1 v1 H1 G1 fp1 h1 F1 e1 n1 r1 => ?_⟩
  cases x with
  | slot i => exact h1.elim
  | val d =>
    refine ⟨ρ1, G1, _, F1, h1, fun xs ρ2 vs H2 G2 fp2 h2 F2 e2 n2 r2 nd2 ap2 => ?_⟩
    obtain ⟨r1, nd1, ap1⟩ := r1
    refine q _ _ (v1 :: vs) H2 G2 (fp1 ++ fp2) h2 F2 (e1.trans e2) (n1.append (n2.back e1)) (.cons (r1.evo F1 e2 ap1) r2) (List.nodup_append.mpr ⟨nd1, nd2, fun a ha b hb z => ?_⟩) (fun a ha => ?_)
    · subst z
      obtain ⟨o, ho, _⟩ := r1.own d _ _ a ha
      exact n2.ne ho (ap1 a ha) hb
    · rcases List.mem_append.mp ha with z | z
      · obtain ⟨o, ho, _⟩ := r1.own d _ _ a z
        exact F1.apart e2 ho (ap1 a z)
      · exact ap2 a z
theorem pz_take (ha : PE X e (tE X.w X.K p te)) (hr : PA X es (tZ X.w X.K p t)) (hs : starEach (e :: es) X.env = (false, eval e X.env) :: starEach es X.env := by rfl) : PA X (e :: es) (tZ X.w X.K p (zTake te t)) :=
  pz_go (pd_take ha) hr (fun _ _ h => h) hs
theorem pz_fz (ha : PE X e (tE X.w X.K p te)) (hr : PA X es (tZ X.w X.K p t)) (hs : starEach (e :: es) X.env = (false, eval e X.env) :: starEach es X.env := by rfl) : PA X (e :: es) (tZ X.w X.K p (zFz te t)) :=
  pz_go (pd_fz ha) hr (fun _ _ h => h) hs
/-! frozen values -/
abbrev TDV := Env → (D → Env → Prop) → Prop
def vFz (te : TDE) : TDV := fun ρ Q => te ρ fun x ρ1 => ∃ d ρ2, fzO x ρ1 = some (d, ρ2) ∧ Q d ρ2
def tV (w : World) (K : PySem.W.Frag) (p : Option V) (t : TDV) : TE := fun σ H Q => ∃ ρ G P, Fit w K p H σ ρ G ∧ t ρ P ∧ ∀ d ρ' v H' G', P d ρ' → Fit w K p H' σ ρ' G' → Evo G H G' H' → Rep w K H' [] v d → Q v H'
def tF (w : World) (K : PySem.W.Frag) (p : Option V) (t : TDZ) : TA := fun σ H Q => ∃ ρ G P, Fit w K p H σ ρ G ∧ t ρ P ∧ ∀ ds ρ' vs H' G', P ds ρ' → Fit w K p H' σ ρ' G' → Evo G H G' H' → Reps w K H' [] vs ds → Q vs H'
theorem pd_val (h : PE X e (tE X.w X.K p te)) : PE X e (tV X.w X.K p (vFz te)) := by
  refine pe_ghost h fun σ H Q ⟨ρ, G, P, F, k, q⟩ => ⟨ρ, G, _, F, k, fun x ρ1 v1 H1 G1 fp1 h1 F1 e1 n1 r1 => ?_⟩
  obtain ⟨d, ρ2, g, pp⟩ := h1
  cases x with
  | val d' =>
    cases g
    obtain ⟨r, nd, ap⟩ := r1
    have ho := r.own d' _ _
    exact ⟨fp1, ho, nd, fun H2 z => q _ _ v1 H2 G1 pp (F1.frz ap z ho) (e1.frz n1 z) (r.frz (z.perm ho) d' _ _ z.2)⟩
  | slot i =>
    simp only [fzO, Option.map_eq_some_iff] at g
    obtain ⟨d', g, e⟩ := g
    cases e
    refine ⟨G1 i, fun a ha => F1.own ha, F1.nod i, fun H2 z => ?_⟩
    obtain ⟨F2, v, ev, r2⟩ := F1.freeze g z
    rw [r1.2] at ev; cases ev
    exact q _ _ v1 H2 _ pp F2 (e1.trans (Evo.freeze F1 z)) r2
theorem pf_nil : PA X [] (tF X.w X.K p zNil) := PA.imp pa_nil fun σ H Q ⟨ρ, G, P, F, k, q⟩ => q _ _ [] H G k F (.refl G H) .nil
theorem pf_cons (ha : PE X e (tE X.w X.K p te)) (hr : PA X es (tF X.w X.K p t)) (hs : starEach (e :: es) X.env = (false, eval e X.env) :: starEach es X.env := by rfl) : PA X (e :: es) (tF X.w X.K p (zFz te t)) := by
  refine PA.imp (pa_cons (pd_val ha) hr hs) fun σ H Q ⟨ρ, G, P, F, k, q⟩ => ⟨ρ, G, _, F, k, fun d ρ1 v1 H1 G1 h1 F1 e1 r1 => ⟨ρ1, G1, _, F1, h1, fun ds ρ2 vs H2 G2 h2 F2 e2 r2 => ?_⟩⟩
  exact q _ _ (v1 :: vs) H2 G2 h2 F2 (e1.trans e2) (.cons (fp := []) (gp := []) (r1.evo F1 e2 fun _ z => nomatch z) r2)
/-- (a, b, ..) -/
def dTupE (t : TDZ) : TDE := fun ρ Q => t ρ fun ds ρ1 => ds.length ≤ sizeLine ∧ Q (.val (.tup ds)) ρ1
/-- [a, b, ..] -/
def dLstE (t : TDZ) : TDE := fun ρ Q => t ρ fun ds ρ1 => ds.length ≤ sizeLine ∧ Q (.val (.lst true ds)) ρ1
theorem pd_tup {x1} (h : PA X es (tZ X.w X.K p t)) : PE X (.Tuple es x1 pos) (tE X.w X.K p (dTupE t)) := by
  refine PE.imp (pe_tup h) fun σ H Q ⟨ρ, G, P, F, k, q⟩ => ⟨ρ, G, _, F, k, fun ds ρ1 vs H1 G1 fp1 h1 F1 e1 n1 r1 nd1 ap1 => ?_⟩
  obtain ⟨hl, pp⟩ := h1
  refine ⟨by rw [r1.length]; exact hl, fun a ha => ?_⟩
  have s := same_upd (o := .tup vs) ha
  exact q _ _ (.ref a) _ G1 fp1 pp (F1.grow s) (e1.trans (.grow s)) n1 ⟨.tup (.inl (.inl upd_same)) (r1.mono (fun a o h _ => s a o h) ds _ _ fun a _ o h => s a o h), nd1, ap1⟩
theorem pd_lst (h : PA X es (tZ X.w X.K p t)) : PE X (.List es pos) (tE X.w X.K p (dLstE t)) := by
  refine PE.imp (pe_lst h) fun σ H Q ⟨ρ, G, P, F, k, q⟩ => ⟨ρ, G, _, F, k, fun ds ρ1 vs H1 G1 fp1 h1 F1 e1 n1 r1 nd1 ap1 => ?_⟩
  obtain ⟨hl, pp⟩ := h1
  refine ⟨by rw [r1.length]; exact hl, fun a ha => ?_⟩
  have s := same_upd (o := .lst vs) ha
  have nin : a ∉ fp1 := fun z => by
    obtain ⟨o, ho, _⟩ := r1.own ds _ _ a z
    rw [ha] at ho; cases ho
  refine q _ _ (.ref a) _ G1 (a :: fp1) pp (F1.grow s) (e1.trans (.grow s)) (fun b hb => ?_) ⟨.lstO upd_same (r1.mono (fun a o h _ => s a o h) ds _ _ fun a _ o h => s a o h), List.nodup_cons.mpr ⟨nin, nd1⟩, fun b hb i => ?_⟩
  · rcases List.mem_cons.mp hb with rfl | hb
    · exact .inr (e1.free ha)
    · exact n1 b hb
  · rcases List.mem_cons.mp hb with rfl | hb
    · exact F1.fresh ha i
    · exact ap1 b hb i
end

/-! ### statements -/
structure EndsD where
  nx : Env → Prop
  rt : D → Env → Prop
  bk : Env → Prop := fun _ => False
  ct : Env → Prop := fun _ => False
abbrev TDS := EndsD → Env → Prop
structure EndsOk (w : World) (K : PySem.W.Frag) (p : Option V) (Dd : EndsD) (D : Ends) (G : Fps) (H : Hp) : Prop where
  nx : ∀ σ' ρ' H' G', Fit w K p H' σ' ρ' G' → Evo G H G' H' → Dd.nx ρ' → D.nx σ' H'
  rt : ∀ v d σ' ρ' H' G' fp, Fit w K p H' σ' ρ' G' → Evo G H G' H' → Nw G H fp → (∀ a ∈ fp, ∀ i, a ∉ G' i) → fp.Nodup → Rep w K H' fp v d → Dd.rt d ρ' → D.rt v H'
  bk : ∀ σ' ρ' H' G', Fit w K p H' σ' ρ' G' → Evo G H G' H' → Dd.bk ρ' → D.bk σ' H'
  ct : ∀ σ' ρ' H' G', Fit w K p H' σ' ρ' G' → Evo G H G' H' → Dd.ct ρ' → D.ct σ' H'
theorem EndsOk.step {w : World} {K : PySem.W.Frag} {p : Option V} {Dd : EndsD} {D : Ends} {G G1 : Fps} {H H1 : Hp} (O : EndsOk w K p Dd D G H) (e : Evo G H G1 H1) : EndsOk w K p Dd D G1 H1 where
  nx := fun _ _ _ _ F e1 h => O.nx _ _ _ _ F (e.trans e1) h
  rt := fun v d _ _ _ _ fp F e1 n ap nd r h => O.rt v d _ _ _ _ fp F (e.trans e1) (n.back e) ap nd r h
  bk := fun _ _ _ _ F e1 h => O.bk _ _ _ _ F (e.trans e1) h
  ct := fun _ _ _ _ F e1 h => O.ct _ _ _ _ F (e.trans e1) h
def tS (w : World) (K : PySem.W.Frag) (p : Option V) (t : TDS) : TS := fun D σ H => ∃ ρ G, Fit w K p H σ ρ G ∧ ∃ Dd, EndsOk w K p Dd D G H ∧ t Dd ρ
def dNext : TDS := fun Dd ρ => Dd.nx ρ
def dSeq (t u : TDS) : TDS := fun Dd ρ => t { Dd with nx := fun ρ' => u Dd ρ' } ρ
def dSet (i : Nat) (te : TDE) : TDS := fun Dd ρ => te ρ fun x ρ1 => ∃ d ρ2, takeO x ρ1 = some (d, ρ2) ∧ Dd.nx (ρ2.set i (some d))
/-- what is handed back: a slot is given up -/
def giveO : Opd → Env → Option (D × Env)
  | .val d, ρ => some (d, ρ)
  | .slot i, ρ => (ρ.getD i none).map fun d => (d, ρ.set i none)
def dRet (te : TDE) : TDS := fun Dd ρ => te ρ fun x ρ1 => ∃ d ρ2, giveO x ρ1 = some (d, ρ2) ∧ Dd.rt d ρ2
def dRetN : TDS := fun Dd ρ => Dd.rt .non ρ
def dDrop (te : TDE) : TDS := fun Dd ρ => te ρ fun _ ρ1 => Dd.nx ρ1
def dIfS (t : TDT) (a b : TDS) : TDS := fun Dd ρ => t ρ fun c ρ1 => if c = true then a Dd ρ1 else b Dd ρ1
def dNever : TDS := fun _ _ => False
def dBreak : TDS := fun Dd ρ => Dd.bk ρ
def dCont : TDS := fun Dd ρ => Dd.ct ρ
def dWhile (t : TDT) (tb : TDS) : TDS := fun Dd ρ => ∃ W : Nat → Env → Prop, (∃ m, W m ρ) ∧ ∀ m ρ, W m ρ → t ρ fun b ρ1 => if b = true then tb { nx := fun ρ2 => ∃ m', m' < m ∧ W m' ρ2, rt := Dd.rt, bk := Dd.nx, ct := fun ρ2 => ∃ m', m' < m ∧ W m' ρ2 } ρ1 else Dd.nx ρ1
section
variable {X : Cx} {p : Option V} {st : Stmt} {rest body body' : List Stmt} {e c : Expr} {t u : TDS} {te : TDE} {tc : TDT} {pos : Pos}
theorem pds_nil : PSs X [] (tS X.w X.K p dNext) := PSs.imp pss_nil fun D σ H ⟨ρ, G, F, Dd, O, h⟩ => O.nx σ ρ H G F (.refl G H) h
theorem pds_cons (h1 : PS X st (tS X.w X.K p t)) (h2 : PSs X rest (tS X.w X.K p u)) : PSs X (st :: rest) (tS X.w X.K p (dSeq t u)) :=
  PSs.imp (pss_cons h1 h2) fun D σ H ⟨ρ, G, F, Dd, O, h⟩ => ⟨ρ, G, F, { Dd with nx := fun ρ' => u Dd ρ' }, ⟨fun σ' ρ' H' G' F' e' h' => ⟨ρ', G', F', Dd, O.step e', h'⟩, O.rt, O.bk, O.ct⟩, h⟩
theorem pds_one (h1 : PS X st (tS X.w X.K p t)) : PSs X [st] (tS X.w X.K p t) := pss_one h1
theorem pd_pass : PS X (.Pass pos) (tS X.w X.K p dNext) := PS.imp ps_pass fun D σ H ⟨ρ, G, F, Dd, O, h⟩ => O.nx σ ρ H G F (.refl G H) h
theorem pd_break : PS X (.Break pos) (tS X.w X.K p dBreak) := PS.imp ps_break fun D σ H ⟨ρ, G, F, Dd, O, h⟩ => O.bk σ ρ H G F (.refl G H) h
theorem pd_continue : PS X (.Continue pos) (tS X.w X.K p dCont) := PS.imp ps_continue fun D σ H ⟨ρ, G, F, Dd, O, h⟩ => O.ct σ ρ H G F (.refl G H) h
theorem pd_never : PS X st (tS X.w X.K p dNever) := PS.imp ps_never fun D σ H ⟨ρ, G, F, Dd, O, h⟩ => h.elim
theorem pd_expr (he : PE X e (tE X.w X.K p te)) (hs : swapsWith e none pos.line X.env = pure false := by rfl) : PS X (.Expr e pos) (tS X.w X.K p (dDrop te)) :=
  PS.imp (ps_expr he hs) fun D σ H ⟨ρ, G, F, Dd, O, h⟩ => ⟨ρ, G, _, F, h, fun x ρ1 v1 H1 G1 fp1 h1 F1 e1 n1 r1 => O.nx σ ρ1 H1 G1 F1 e1 h1⟩
theorem pd_if {a b : List Stmt} (hc : PT X c (tT X.w X.K p tc)) (ha : PSs X a (tS X.w X.K p t)) (hb : PSs X b (tS X.w X.K p u)) : PS X (.If c a b pos) (tS X.w X.K p (dIfS tc t u)) := by
  refine PS.imp (ps_if hc ha hb) fun D σ H ⟨ρ, G, F, Dd, O, h⟩ => ⟨ρ, G, _, F, h, fun b ρ1 H1 G1 h1 F1 e1 => ?_⟩
  cases b with
  | true => exact ⟨ρ1, G1, F1, Dd, O.step e1, h1⟩
  | false => exact ⟨ρ1, G1, F1, Dd, O.step e1, h1⟩
theorem pd_retN : PS X (.Return none pos) (tS X.w X.K p dRetN) := PS.imp ps_retN fun D σ H ⟨ρ, G, F, Dd, O, h⟩ => O.rt .non .non σ ρ H G [] F (.refl G H) .nil (fun _ z => nomatch z) .nil .non h
theorem pd_ret (he : PE X e (tE X.w X.K p te)) : PS X (.Return (some e) pos) (tS X.w X.K p (dRet te)) := by
  refine PS.imp (ps_ret he) fun D σ H ⟨ρ, G, F, Dd, O, h⟩ => ⟨ρ, G, _, F, h, fun x ρ1 v1 H1 G1 fp1 h1 F1 e1 n1 r1 => ?_⟩
  obtain ⟨d, ρ2, g, pp⟩ := h1
  cases x with
  | val d' =>
    cases g
    obtain ⟨r, nd, ap⟩ := r1
    exact O.rt v1 d σ ρ1 H1 G1 fp1 F1 e1 n1 ap nd r pp
  | slot i =>
    simp only [giveO, Option.map_eq_some_iff] at g
    obtain ⟨d', g, e⟩ := g
    cases e
    obtain ⟨v, ev, r⟩ := F1.rep i d (getD_some g)
    rw [r1.2] at ev; cases ev
    refine O.rt v1 d σ _ H1 _ (G1 i) (F1.drop i) (e1.sub sub_setF_nil) (fun a ha => e1.new i a ha) (fun a ha j hj => ?_) (F1.nod i) r pp
    by_cases ej : j = i
    · subst ej; rw [setF_same] at hj; cases hj
    · rw [setF_ne ej] at hj; exact ej (F1.dj j i a hj ha)
/-- a name's slot is set -/
theorem slot_set {w : World} {K : PySem.W.Frag} {σ : St} {ρ1 : Env} {H H1 : Hp} {G G1 : Fps} {fp1 : List Addr} {v1 : V} {d : D} {i : Nat} (hp : i ≠ 0 ∨ p = none) (F1 : Fit w K p H1 σ ρ1 G1) (e1 : Evo G H G1 H1) (n1 : Nw G H fp1) (r1 : RepOpd w K H1 σ G1 fp1 v1 (.val d)) :
    ∃ G', Fit w K p H1 (σ.set i (some v1)) (ρ1.set i (some d)) G' ∧ Evo G H G' H1 := by
  obtain ⟨r, nd, ap⟩ := r1
  by_cases hi : i < ρ1.length
  · refine ⟨_, F1.put hi r nd (fun a ha j _ => ap a ha j) (fun u hu h0 => ?_), e1.keep, fun k a z => ?_, e1.dom⟩
    · rcases hp with z | z
      · exact absurd h0 z
      · rw [z] at hu; cases hu
    · by_cases ek : k = i
      · subst ek; rw [setF_same] at z; exact n1 a z
      · rw [setF_ne ek] at z; exact e1.new k a z
  · refine ⟨G1, ?_, e1⟩
    rw [List.set_eq_of_length_le (by rw [← F1.len]; omega), List.set_eq_of_length_le (by omega)]
    exact F1
/-- x = e -/
theorem pd_set (i : Nat) {x : Str} {pos' : Pos} (hN : X.N.Nodup) (hp : i ≠ 0 ∨ p = none) (he : PE X e (tE X.w X.K p te)) (hi : X.N[i]? = some x := by rfl) (hx : Loc X.env.scope x := by first | exact Or.inl rfl | exact Or.inr rfl) (hs : swapsWith e (some (.Name x pos')) pos.line X.env = pure false := by rfl) (hf : X.fn x = true ∨ X.env.scope.names.lookup x = some .local := by first | exact .inl rfl | exact .inr rfl) :
    PS X (.Assign [.Name x pos'] e pos) (tS X.w X.K p (dSet i te)) := by
  refine PS.imp (ps_set (i := i) hN hi hx (pd_take he) hs hf) fun D σ H ⟨ρ, G, F, Dd, O, h⟩ => ⟨ρ, G, onVal fun d ρ2 => Dd.nx (ρ2.set i (some d)), F, h, fun x ρ1 v1 H1 G1 fp1 h1 F1 e1 n1 r1 => ?_⟩
  cases x with
  | slot j => exact h1.elim
  | val d =>
    obtain ⟨G', F', e'⟩ := slot_set hp F1 e1 n1 r1
    exact O.nx _ _ H1 G' F' e' h1
theorem pd_while (hpass : PassesOwn (model X.prog X.w) X.A X.env X.xe) (hc : PT X c (tT X.w X.K p tc)) (hb : PSs X body (tS X.w X.K p t)) : PS X (.While c body [] pos) (tS X.w X.K p (dWhile tc t)) := by
  refine PS.imp (ps_while hpass hc hb) fun D σ H ⟨ρ, G, F, Dd, O, W, ⟨m0, w0⟩, step⟩ => ⟨fun m σ' H' => ∃ ρ' G', Fit X.w X.K p H' σ' ρ' G' ∧ Evo G H G' H' ∧ W m ρ', ⟨m0, ρ, G, F, .refl G H, w0⟩, ?_⟩
  rintro m σ1 H1 ⟨ρ1, G1, F1, e1, w1⟩
  refine ⟨ρ1, G1, _, F1, step m ρ1 w1, fun b ρ2 H2 G2 h2 F2 e2 => ?_⟩
  cases b with
  | true =>
    refine iteT ⟨fun σ' H' => ∃ m', m' < m ∧ ∃ ρ' G', Fit X.w X.K p H' σ' ρ' G' ∧ Evo G H G' H' ∧ W m' ρ', fun σ' H' ⟨m', hm, q⟩ => ⟨m', hm, q⟩, ρ2, G2, F2, _, ⟨?_, ?_, ?_, ?_⟩, h2⟩
    · exact fun σ' ρ' H' G' F' e' ⟨m', hm, w'⟩ => ⟨m', hm, ρ', G', F', (e1.trans e2).trans e', w'⟩
    · exact (O.step (e1.trans e2)).rt
    · exact (O.step (e1.trans e2)).nx
    · exact fun σ' ρ' H' G' F' e' ⟨m', hm, w'⟩ => ⟨m', hm, ρ', G', F', (e1.trans e2).trans e', w'⟩
  | false => exact iteF (O.nx _ _ H2 G2 F2 (e1.trans e2) h2)
end

/-! ### targets -/
abbrev TGD := D → Env → (Env → Prop) → Prop
abbrev TGDs := List D → Env → (Env → Prop) → Prop
/-- targets that set the slots vs alone -/
def SameOff (vs : List Nat) (σ σ' : St) : Prop := σ'.length = σ.length ∧ ∀ j, j ∉ vs → σ'[j]? = σ[j]?
theorem SameOff.trans {vs ws : List Nat} {a b c : St} (h : SameOff vs a b) (k : SameOff ws b c) : SameOff (vs ++ ws) a c :=
  ⟨k.1.trans h.1, fun j hj => (k.2 j fun z => hj (List.mem_append_right _ z)).trans (h.2 j fun z => hj (List.mem_append_left _ z))⟩
def tG (w : World) (K : PySem.W.Frag) (p : Option V) (vs : List Nat) (t : TGD) : TG := fun v σ H Q => ∃ d ρ G P, Fit w K p H σ ρ G ∧ Rep w K H [] v d ∧ t d ρ P ∧ ∀ ρ' σ' G', P ρ' → Fit w K p H σ' ρ' G' → (∀ i a, a ∈ G' i → ∃ j, a ∈ G j) → SameOff vs σ σ' → Q σ' H
def tGs (w : World) (K : PySem.W.Frag) (p : Option V) (vs : List Nat) (t : TGDs) : TGs := fun us σ H Q => ∃ ds ρ G P, Fit w K p H σ ρ G ∧ Reps w K H [] us ds ∧ t ds ρ P ∧ ∀ ρ' σ' G', P ρ' → Fit w K p H σ' ρ' G' → (∀ i a, a ∈ G' i → ∃ j, a ∈ G j) → SameOff vs σ σ' → Q σ' H
def gN (i : Nat) : TGD := fun d ρ P => P (ρ.set i (some d))
def gT (n : Nat) (t : TGDs) : TGD := fun d ρ P => ∃ ds, d = .tup ds ∧ ds.length = n ∧ t ds ρ P
def gsNil : TGDs := fun ds ρ P => ds = [] ∧ P ρ
def gsCons (t : TGD) (u : TGDs) : TGDs := fun ds ρ P => ∃ d r, ds = d :: r ∧ t d ρ fun ρ' => u r ρ' P
section
variable {X : Cx} {p : Option V} {e : Expr} {es : List Expr} {t : TGD} {u : TGDs} {vs ws : List Nat} {pos : Pos}
theorem PG.imp {t t' : TG} (h : PG X e t) (m : ∀ v σ H Q, t' v σ H Q → t v σ H Q) : PG X e t' := ⟨fun pins s σ H v u Q I r q => h.run pins s σ H v u Q I r (m v σ H Q q)⟩
theorem PGs.imp {t t' : TGs} (h : PGs X es t) (m : ∀ v σ H Q, t' v σ H Q → t v σ H Q) : PGs X es t' := ⟨fun pins s σ H v u Q I r q => h.run pins s σ H v u Q I r (m v σ H Q q)⟩
theorem gd_name (i : Nat) {x : Str} (hN : X.N.Nodup) (hp : i ≠ 0 ∨ p = none) (hi : X.N[i]? = some x := by rfl) (hx : Loc X.env.scope x := by first | exact Or.inl rfl | exact Or.inr rfl) (hf : X.fn x = true ∨ X.env.scope.names.lookup x = some .local := by first | exact .inl rfl | exact .inr rfl) :
    PG X (.Name x pos) (tG X.w X.K p [i] (gN i)) := by
  refine PG.imp (pg_name (i := i) hN hi hx hf) fun v σ H Q ⟨d, ρ, G, P, F, r, k, q⟩ => ?_
  by_cases hl : i < ρ.length
  · refine q _ _ (setF G i []) k (F.put hl r .nil (fun _ z => nomatch z) fun u hu h0 => ?_) sub_setF_nil ⟨by simp, fun j hj => ?_⟩
    · rcases hp with z | z
      · exact absurd h0 z
      · rw [z] at hu; cases hu
    · rw [List.getElem?_set_ne (fun z => hj (by simp [z]))]
  · have e1 : σ.set i (some v) = σ := List.set_eq_of_length_le (by rw [← F.len]; omega)
    have e2 : ρ.set i (some d) = ρ := List.set_eq_of_length_le (by omega)
    refine q _ _ G k ?_ (fun i a z => ⟨i, z⟩) ⟨by simp, fun j hj => ?_⟩
    · rw [e1, e2]; exact F
    · rw [e1]
theorem gds_nil : PGs X [] (tGs X.w X.K p [] gsNil) := PGs.imp pgs_nil fun vs σ H Q ⟨ds, ρ, G, P, F, r, ⟨e, k⟩, q⟩ => by
  subst e
  obtain ⟨_, e2⟩ := r.nil_inv
  exact ⟨e2, q _ _ G k F (fun i a z => ⟨i, z⟩) ⟨rfl, fun _ _ => rfl⟩⟩
theorem gds_cons (h1 : PG X e (tG X.w X.K p vs t)) (h2 : PGs X es (tGs X.w X.K p ws u)) (hs : (assignEach (e :: es) X.env).map (·.2) = assign e X.env :: (assignEach es X.env).map (·.2) := by rfl) : PGs X (e :: es) (tGs X.w X.K p (vs ++ ws) (gsCons t u)) := by
  refine PGs.imp (pgs_cons h1 h2 hs) fun us σ H Q ⟨ds, ρ, G, P, F, r, ⟨d, dr, e, k⟩, q⟩ => ?_
  subst e
  obtain ⟨v, vr, eu, ra, rb⟩ := r.cons0
  subst eu
  refine ⟨v, vr, rfl, d, ρ, G, _, F, ra, k, fun ρ1 σ1 G1 h1 F1 n1 s1 => ⟨dr, ρ1, G1, _, F1, rb, h1, fun ρ2 σ2 G2 h2 F2 n2 s2 => ?_⟩⟩
  exact q _ _ G2 h2 F2 (fun i a z => let ⟨j, y⟩ := n2 i a z; n1 j a y) (s1.trans s2)
theorem gd_tup {k : Nat} {n : Nat} (hc : X.calm = true) (h : PGs X es (tGs X.w X.K p vs u)) (hn : (assignEach es X.env).length = n := by rfl) (hst : (assignEach es X.env).findIdx? (·.1) = none := by rfl) :
    PG X (.Tuple es k pos) (tG X.w X.K p vs (gT n u)) := by
  refine PG.imp (pg_tup hc h hn hst) fun v σ H Q ⟨d, ρ, G, P, F, r, ⟨ds, e, hl, k⟩, q⟩ => ?_
  subst e
  cases r with
  | tup h1 h2 => exact ⟨_, _, rfl, h1, by rw [h2.length]; exact hl, ds, ρ, G, P, F, h2, k, q⟩
/-- (a, b, ..) = e -/
def dAsg (te : TDE) (g : TGD) : TDS := fun Dd ρ => te ρ fun x ρ1 => ∃ d ρ2, fzO x ρ1 = some (d, ρ2) ∧ g d ρ2 Dd.nx
theorem pd_asg {tg : Expr} {te : TDE} (he : PE X e (tE X.w X.K p te)) (hg : PG X tg (tG X.w X.K p vs t)) (hs : swapsWithSole [tg] e pos.line X.env = pure false := by rfl) (hw : swappedStores [tg] e X.env = pure none := by rfl)
    (h1 : (assignEach [tg] X.env).map (·.2) = [assign tg X.env] := by rfl) : PS X (.Assign [tg] e pos) (tS X.w X.K p (dAsg te t)) := by
  refine PS.imp (ps_asg (pd_val he) hg hs hw h1) fun D σ H ⟨ρ, G, F, Dd, O, h⟩ => ⟨ρ, G, _, F, h, fun d ρ1 v1 H1 G1 h1 F1 e1 r => ?_⟩
  exact ⟨d, ρ1, G1, _, F1, r, h1, fun ρ2 σ2 G2 h2 F2 n2 s2 => O.nx _ _ H1 G2 F2 (e1.sub n2) h2⟩
end
end KW
/-! KWe: what a loop walks; for; comprehensions. -/
namespace KW
open PySem PySem.Spec L2
open PyProof.Rows hiding St

/-- the walk J yields the trees items, one after another -/
def ItD (w : World) (K : PySem.W.Frag) (G : Fps) (H : Hp) (J : It) (items : List D) : Prop := ∀ H2 : Hp, (∀ a o, H a = some o → Perm o → H2 a = some o) →
  (∀ i d, items[i]? = some d → J.go i H2 ∧ ∀ x H3, J.yld i H2 x H3 → Same H2 H3 ∧ Rep w K H3 [] x d) ∧ J.stop items.length H2
abbrev TDI := Env → (List D → Env → Prop) → Prop
def tI (w : World) (K : PySem.W.Frag) (p : Option V) (t : TDI) : TI := fun σ H R => ∃ ρ G P, Fit w K p H σ ρ G ∧ t ρ P ∧ ∀ items ρ' J H' G', P items ρ' → Fit w K p H' σ ρ' G' → Evo G H G' H' → ItD w K G' H' J items → R J H'
theorem PI.imp {X : Cx} {tg e : Expr} {t t' : TI} (h : PI X tg e t) (m : ∀ σ H R, t' σ H R → t σ H R) : PI X tg e t' := ⟨fun pins s σ H R I q => h.run pins s σ H R I (m σ H R q)⟩
theorem Reps.get {w : World} {K : PySem.W.Frag} {H : Hp} : ∀ {vs : List V} {ds : List D} {i : Nat} {d : D}, Reps w K H [] vs ds → ds[i]? = some d → ∃ v, vs[i]? = some v ∧ Rep w K H [] v d
  | vs, [], i, d, _, h => by simp at h
  | vs, d' :: ds, i, d, r, h => by
    obtain ⟨v, vr, rfl, r1, r2⟩ := r.cons0
    cases i with
    | zero => simp at h; subst h; exact ⟨v, rfl, r1⟩
    | succ i => exact Reps.get (i := i) r2 (by simpa using h)

/-! ### iterables by their values -/
section
variable {X : Cx} {tg : Expr} {pins : List (Addr × Obj)} {s : Shared} {σ : St} {H : Hp} {R : It → Hp → Prop} {E : Value → Shared → Prop}
theorem iter_list {a : Addr} {xs : List V} (I : Inv X pins σ H s) (hq : SqL X.K H a xs) (q : R (Itl X.K a) H) : wpAny (model X.prog X.w) X.A (pyIter (.ref a)) (PIE X pins σ tg R) E s := by
  obtain ⟨its, rv, pl, hz⟩ := I.list hq
  exact wpAny_pyIter_list pl.isList (pi_one (tk := s.toks) I _ (turn_list a _) ⟨_, Heap.get?_push_size _ rfl, rfl, rfl⟩ q)
theorem iter_tup {a : Addr} {xs : List V} (I : Inv X pins σ H s) (hq : SqT X.K H a xs) (q : R (Itt X.K a) H) : wpAny (model X.prog X.w) X.A (pyIter (.ref a)) (PIE X pins σ tg R) E s := by
  obtain ⟨its, rv, pl, hz⟩ := I.tuple hq
  exact wpAny_pyIter_tuple (show s.heap.IsTuple a its.toArray from pl) (pi_one (tk := s.toks) I _ (turn_tuple a _) ⟨_, Heap.get?_push_size _ rfl, rfl, rfl⟩ q)
theorem iter_str {x : Str} {t : Tok} (I : Inv X pins σ H s) (q : R (Its x) H) : wpAny (model X.prog X.w) X.A (pyIter (.str x t)) (PIE X pins σ tg R) E s := by
  cases ha : x.cps.all (· < 128)
  · exact wpAny_pyIter_wide ha (pi_one (tk := s.toks) I _ (turn_str _ x t "str_iterator" (.inr rfl)) ⟨_, Heap.get?_push_size _ rfl, rfl, rfl⟩ q)
  · exact wpAny_pyIter_ascii ha (pi_one (tk := s.toks) I _ (turn_str _ x t "str_ascii_iterator" (.inl rfl)) ⟨_, Heap.get?_push_size _ rfl, rfl, rfl⟩ q)
/-! a frozen dict's keys -/
theorem RDp.of_frz (I : Inv X pins σ H s) {d : Addr} {o : Obj} {es : List (Int × V × V)} (h : H d = some (.frz o (RD d es))) : s.heap.get? d = some o ∧ RDp d es s.heap := by
  obtain ⟨e, x⟩ := I.hok d _ h
  exact ⟨e, x.1⟩
/-- the keys of the dict at d, the object o -/
def ItK (d : Addr) (o : Obj) (es : List (Int × V × V)) : It :=
  ⟨fun i H => H d = some (.frz o (RD d es)) ∧ i < es.length, fun i H x H' => H' = H ∧ ∃ e, es[i]? = some e ∧ x = e.2.1, fun i H => H d = some (.frz o (RD d es)) ∧ es.length ≤ i⟩
theorem paired_get {α β : Type} {F : α → β → Prop} : ∀ {l : List α} {m : List β} {i : Nat} {x : α}, Paired F l m → l[i]? = some x → ∃ y, m[i]? = some y ∧ F x y
  | _, _, _, _, .nil, h => by simp at h
  | _, _, 0, _, .cons r _, h => by simp at h; subst h; exact ⟨_, rfl, r⟩
  | _, _, i + 1, _, .cons _ t, h => paired_get (i := i) t (by simpa using h)
theorem paired_length {α β : Type} {F : α → β → Prop} : ∀ {l : List α} {m : List β}, Paired F l m → l.length = m.length
  | _, _, .nil => rfl
  | _, _, .cons _ t => by simp [paired_length t]
theorem turn_RD {P : Program} {w : World} {K : PySem.W.Frag} {d : Addr} {o : Obj} {es : List (Int × V × V)} {eo : Array DictEntry} {ep : Nat} (it : Addr) (hod : o.data = .dict eo ep) :
    Turn P w K tg (ItK d o es) [it] it (fun i h => h.IsKeyIter it d i es.length ep) where
  mem := by simp
  obj := fun i h st b hb => by
    obtain rfl : b = it := by simpa using hb
    obtain ⟨oi, e, c, dd⟩ := st
    exact ⟨oi, e, fun v z => by rw [dd] at z; cases z⟩
  keep := fun i h h' st k => let ⟨oi, e, r⟩ := st; ⟨oi, k it (by simp) oi e, r⟩
  item := by
    intro X hP hw hK hc i pins s σ H E I hf st hg
    subst hP hw hK
    obtain ⟨hd, hi⟩ := hg
    obtain ⟨f0, f1, f2, f3, f4, f5⟩ := hf it (by simp)
    obtain ⟨e0, hs, hz, eo', ep', hr, hp⟩ := RDp.of_frz I hd
    obtain ⟨o', ho', _, hdt⟩ := id hr
    rw [e0] at ho'; cases ho'
    rw [hod] at hdt; cases hdt
    obtain ⟨x, hx⟩ : ∃ x, es[i]? = some x := ⟨es[i], List.getElem?_eq_getElem hi⟩
    obtain ⟨y, hy, hF⟩ := paired_get hp hx
    have hl : es.length = eo.size := by rw [paired_length hp]; simp
    rw [hl] at st
    have hlt : i < eo.size := by omega
    have hye : eo[i] = y := by
      have : eo[i]? = some y := by simpa using hy
      rw [Array.getElem?_eq_getElem hlt] at this
      exact Option.some.inj this
    refine wpAny_pyNext_keys_item_raw st hr hlt fun h' st' sb => ?_
    have I1 : Inv X pins σ H { s with heap := h' } := I.turned (t' := s.toks) (fun b ob hb e => (sb.2 b hb).trans e) f0 f1 f3 f4 f5
    obtain ⟨oi, e, c, dd⟩ := id st'
    refine ⟨_, rfl, go_of (s := { s with heap := h' }) e c dd (by decide) ⟨x.2.1, H, I1, by rw [hye]; exact hF.2.1, ⟨rfl, x, hx, rfl⟩, ?_, fun b hb => (hf b hb).1⟩⟩
    show h'.IsKeyIter it d (i + 1) es.length _
    rw [hl]; exact st'
  done := by
    intro X hP hw hK hc i pins s σ H E I hf st hg
    subst hP hw hK
    obtain ⟨hd, hi⟩ := hg
    obtain ⟨f0, f1, f2, f3, f4, f5⟩ := hf it (by simp)
    obtain ⟨e0, hs, hz, eo', ep', hr, hp⟩ := RDp.of_frz I hd
    obtain ⟨o', ho', _, hdt⟩ := id hr
    rw [e0] at ho'; cases ho'
    rw [hod] at hdt; cases hdt
    have hl : es.length = eo.size := by rw [paired_length hp]; simp
    rw [hl] at st
    exact wpAny_pyNext_keys_end_raw (I.ok.hd hc) st hr (by omega) fun h' eb => ⟨rfl, I.turned (t' := s.toks) (fun b ob hb e => eb b ob hb e) f0 f1 f3 f4 f5⟩
  self := fun A i s Q E st h => wpAny_pyIter_keyiter st h
theorem iter_RD {d : Addr} {o : Obj} {es : List (Int × V × V)} (I : Inv X pins σ H s) (h : H d = some (.frz o (RD d es))) (q : R (ItK d o es) H) : wpAny (model X.prog X.w) X.A (pyIter (.ref d)) (PIE X pins σ tg R) E s := by
  obtain ⟨e0, hs, hz, eo, ep, hr, hp⟩ := RDp.of_frz I h
  obtain ⟨o', ho', _, hdt⟩ := id hr
  rw [e0] at ho'; cases ho'
  refine wpAny_pyIter_dict_raw hs hr (pi_one (tk := s.toks) I _ (turn_RD (es := es) _ hdt) ⟨_, Heap.get?_push_size _ rfl, rfl, ?_⟩ q)
  have hl : es.length = eo.size := by rw [paired_length hp]; simp
  rw [hl]
  rfl
end

/-- the items of a value that is walked -/
def itemsD : D → Option (List D)
  | .tup ds => some ds
  | .lst _ ds => some ds
  | .dct _ kvs => some (kvs.map (·.1))
  | .str x => some (x.cps.toList.map fun c => .str ⟨#[c]⟩)
  | _ => none
section
variable {w : World} {K : PySem.W.Frag} {G : Fps} {H : Hp}
theorem itd_list {a : Addr} {xs : List V} {ds : List D} (h : FrL K H a xs) (r : Reps w K H [] xs ds) : ItD w K G H (Itl K a) ds := fun H2 pm => by
  have h2 := (h.mono pm).sq
  have r2 := r.mono pm ds _ _ fun _ z _ _ => absurd z List.not_mem_nil
  refine ⟨fun i d hd => ?_, ⟨xs, h2, by rw [r.length]; exact Nat.le_refl _⟩⟩
  obtain ⟨v, hv, rv⟩ := r2.get hd
  refine ⟨⟨xs, v, h2, hv⟩, fun x H3 ⟨e3, k⟩ => ?_⟩
  subst e3
  have := k xs h2
  rw [hv] at this; cases this
  exact ⟨fun _ _ z => z, rv⟩
theorem itd_tup {a : Addr} {xs : List V} {ds : List D} (h : SqT K H a xs) (r : Reps w K H [] xs ds) : ItD w K G H (Itt K a) ds := fun H2 pm => by
  have h2 := SqT.mono h pm
  have r2 := r.mono pm ds _ _ fun _ z _ _ => absurd z List.not_mem_nil
  refine ⟨fun i d hd => ?_, ⟨xs, h2, by rw [r.length]; exact Nat.le_refl _⟩⟩
  obtain ⟨v, hv, rv⟩ := r2.get hd
  refine ⟨⟨xs, v, h2, hv⟩, fun x H3 ⟨e3, k⟩ => ?_⟩
  subst e3
  have := k xs h2
  rw [hv] at this; cases this
  exact ⟨fun _ _ z => z, rv⟩
theorem itd_str {x : Str} : ItD w K G H (Its x) (x.cps.toList.map fun c => .str ⟨#[c]⟩) := fun H2 pm => by
  refine ⟨fun i d hd => ?_, by simp [Its]⟩
  rw [List.getElem?_map] at hd
  cases q : x.cps.toList[i]? with
  | none => rw [q] at hd; cases hd
  | some c =>
    rw [q] at hd
    have hd : D.str ⟨#[c]⟩ = d := Option.some.inj hd
    subst hd
    have q' : x.cps[i]? = some c := by simpa using q
    refine ⟨(Array.getElem?_eq_some_iff.mp q').1, fun v H3 ⟨e3, c', hc, ev⟩ => ?_⟩
    rw [q'] at hc; cases hc
    subst e3 ev
    exact ⟨fun _ _ z => z, .str _⟩
theorem RepD.get {fp : List Addr} : ∀ {es : List (Int × V × V)} {kvs : List (D × D)} {i : Nat} {q : D × D}, RepD w K H fp es kvs → kvs[i]? = some q → ∃ e, es[i]? = some e ∧ Rep w K H [] e.2.1 q.1 ∧ ∃ fp', (∀ a ∈ fp', a ∈ fp) ∧ Rep w K H fp' e.2.2 q.2
  | _, _, _, _, .nil, h => by simp at h
  | _, _, 0, _, .cons (fp := fp) (gp := gp) hk _ _ hv _, h => by simp at h; subst h; exact ⟨_, rfl, hk, fp, fun a z => List.mem_append_left _ z, hv⟩
  | _, _, i + 1, _, .cons _ _ _ _ t, h => by
    obtain ⟨e, h1, h2, fp', h3, h4⟩ := RepD.get (i := i) t (by simpa using h)
    exact ⟨e, by simpa using h1, h2, fp', fun a z => List.mem_append_right _ (h3 a z), h4⟩
theorem RepD.length {fp : List Addr} : ∀ {es : List (Int × V × V)} {kvs : List (D × D)}, RepD w K H fp es kvs → es.length = kvs.length
  | _, _, .nil => rfl
  | _, _, .cons _ _ _ _ t => by simp [RepD.length t]
theorem itd_dct {d : Addr} {o : Obj} {es : List (Int × V × V)} {kvs : List (D × D)} (h : H d = some (.frz o (RD d es))) (r : RepD w K H [] es kvs) : ItD w K G H (ItK d o es) (kvs.map (·.1)) := fun H2 pm => by
  have h2 := pm _ _ h trivial
  have r2 := r.mono pm kvs _ _ fun _ z _ _ => absurd z List.not_mem_nil
  refine ⟨fun i k hk => ?_, ⟨h2, by rw [r.length]; simp⟩⟩
  rw [List.getElem?_map] at hk
  cases q : kvs[i]? with
  | none => rw [q] at hk; cases hk
  | some kv =>
    rw [q] at hk
    have hk : kv.1 = k := Option.some.inj hk
    subst hk
    obtain ⟨en, h1, h3, _⟩ := r2.get q
    refine ⟨⟨h2, by rw [r.length]; exact (List.getElem?_eq_some_iff.mp q).1⟩, fun x H3 ⟨e3, en', h4, e4⟩ => ?_⟩
    rw [h1] at h4; cases h4
    subst e3 e4
    exact ⟨fun _ _ z => z, h3⟩
end
/-- x in e: a list, a tuple, a text, a dict -/
def dIter (te : TDE) : TDI := fun ρ Q => te ρ fun x ρ1 => ∃ d ρ2, fzO x ρ1 = some (d, ρ2) ∧ ∃ ds, itemsD d = some ds ∧ Q ds ρ2
theorem pi_any {X : Cx} {p : Option V} {tg e : Expr} {te : TDE} (he : PE X e (tE X.w X.K p te)) : PI X tg e (tI X.w X.K p (dIter te)) := by
  refine ⟨fun pins s σ H R I ⟨ρ, G, P, F, k, q⟩ => ?_⟩
  refine thn ((pd_val he).run pins s σ H (fun v H' => ∃ d ρ' G' ds, Fit X.w X.K p H' σ ρ' G' ∧ Evo G H G' H' ∧ Rep X.w X.K H' [] v d ∧ itemsD d = some ds ∧ P ds ρ') I ⟨ρ, G, _, F, k, fun d ρ' v H' G' ⟨ds, hd, pp⟩ F' e' r => ⟨d, ρ', G', ds, F', e', r, hd, pp⟩⟩) fun u s1 ⟨v, H1, I1, rv, d, ρ1, G1, ds, F1, e1, r, hd, pp⟩ => ?_
  cases r with
  | tup h1 h2 =>
    cases hd; cases rv
    exact iter_tup I1 h1 (q _ _ _ H1 G1 pp F1 e1 (itd_tup h1 h2))
  | lstF h1 h2 =>
    cases hd; cases rv
    exact iter_list I1 h1.sq (q _ _ _ H1 G1 pp F1 e1 (itd_list h1 h2))
  | dctF h1 hn h2 =>
    cases hd; cases rv
    exact iter_RD I1 h1 (q _ _ _ H1 G1 pp F1 e1 (itd_dct h1 h2))
  | str x =>
    cases hd
    obtain ⟨t, rfl⟩ := rv
    exact iter_str I1 (q _ _ _ H1 G1 pp F1 e1 itd_str)
  | _ => cases hd

/-! ### for -/
def forD (g : TGD) (tb : TDS) (Dd : EndsD) : List D → Env → Prop
  | [], ρ => Dd.nx ρ
  | d :: ds, ρ => g d ρ fun ρ1 => tb { nx := forD g tb Dd ds, rt := Dd.rt, bk := Dd.nx, ct := forD g tb Dd ds } ρ1
def dFor (ti : TDI) (g : TGD) (tb : TDS) : TDS := fun Dd ρ => ti ρ fun items ρ1 => forD g tb Dd items ρ1
theorem pd_for {X : Cx} {p : Option V} {tg iter : Expr} {body : List Stmt} {ti : TDI} {g : TGD} {tb : TDS} {vs : List Nat} {pos : Pos} (hp : PassesOwn (model X.prog X.w) X.A X.env X.xe) (hc : X.calm = true) (hi : PI X tg iter (tI X.w X.K p ti)) (hg : PG X tg (tG X.w X.K p vs g)) (hb : PSs X body (tS X.w X.K p tb))
    (hs : ∀ x, foldedSetIterable iter X.env x = pure x := by intro _; rfl) : PS X (.For tg iter body [] pos) (tS X.w X.K p (dFor ti g tb)) := by
  refine PS.imp (ps_for hp hc hi hg hb hs) fun D σ H ⟨ρ, G, F, Dd, O, h⟩ => ⟨ρ, G, _, F, h, fun items ρ1 J H1 G1 h1 F1 e1 hJ => ?_⟩
  refine ⟨fun i m σ2 H2 => m = items.length - i ∧ i ≤ items.length ∧ ∃ ρ2 G2, Fit X.w X.K p H2 σ2 ρ2 G2 ∧ Evo G1 H1 G2 H2 ∧ forD g tb Dd (items.drop i) ρ2, ⟨_, rfl, Nat.zero_le _, ρ1, G1, F1, .refl G1 H1, h1⟩, ?_⟩
  rintro i m σ2 H2 ⟨rfl, hi, ρ2, G2, F2, e2, h2⟩
  obtain ⟨go, stop⟩ := hJ H2 (F1.perm e2)
  by_cases hlt : i < items.length
  · refine .inr ⟨(go i items[i] (List.getElem?_eq_getElem hlt)).1, fun σ' H' => ∃ ρ' G', Fit X.w X.K p H' σ' ρ' G' ∧ Evo G1 H1 G' H' ∧ forD g tb Dd (items.drop (i + 1)) ρ', fun σ' H' z => ⟨items.length - (i + 1), by omega, rfl, hlt, z⟩, fun x H3 y => ?_⟩
    obtain ⟨s3, r3⟩ := (go i items[i] (List.getElem?_eq_getElem hlt)).2 x H3 y
    rw [List.drop_eq_getElem_cons hlt] at h2
    refine ⟨items[i], ρ2, G2, _, F2.grow s3, r3, h2, fun ρ4 σ4 G4 h4 F4 n4 s4 => ?_⟩
    have e4 : Evo G1 H1 G4 H3 := (e2.trans (.grow s3)).sub n4
    refine ⟨ρ4, G4, F4, _, ⟨?_, ?_, ?_, ?_⟩, h4⟩
    · exact fun σ' ρ' H' G' F' e' h' => ⟨ρ', G', F', e4.trans e', h'⟩
    · exact (O.step (e1.trans e4)).rt
    · exact (O.step (e1.trans e4)).nx
    · exact fun σ' ρ' H' G' F' e' h' => ⟨ρ', G', F', e4.trans e', h'⟩
  · have e : i = items.length := by omega
    subst e
    rw [List.drop_length] at h2
    exact .inl ⟨stop, O.nx _ _ H2 G2 F2 (e1.trans e2) h2⟩
end KW
/-! KWf: comprehensions; calls and promises of defs. -/
namespace KW
open PySem PySem.Spec L2
open PyProof.Rows hiding St

/-! ### the block of a comprehension -/
def wipeE (ρ : Env) : List Nat → Env
  | [] => ρ
  | v :: vs => (wipeE ρ vs).set v none
def wipeF (G : Fps) (vs : List Nat) : Fps := fun j => if j ∈ vs then [] else G j
theorem set_get {α : Type} (l : List (Option α)) (i j : Nat) : (l.set i none)[j]? = if j = i then (if i < l.length then some none else none) else l[j]? := by
  by_cases h : j = i
  · subst h
    rw [if_pos rfl]
    by_cases hl : j < l.length
    · rw [if_pos hl, List.getElem?_set_self hl]
    · rw [if_neg hl, List.getElem?_eq_none (by simpa using hl)]
  · rw [if_neg h, List.getElem?_set_ne (Ne.symm h)]
theorem wipeE_length (ρ : Env) : ∀ vs : List Nat, (wipeE ρ vs).length = ρ.length
  | [] => rfl
  | v :: vs => by unfold wipeE; rw [List.length_set, wipeE_length ρ vs]
theorem wipe_get (σ : St) : ∀ (vs : List Nat) (j : Nat), (wipe σ vs)[j]? = if j ∈ vs then (if j < σ.length then some none else none) else σ[j]?
  | [], j => by simp [wipe]
  | v :: vs, j => by
    unfold wipe
    rw [set_get, wipe_length, wipe_get σ vs j]
    by_cases h : j = v
    · subst h; simp
    · simp [h]
theorem wipeE_get (ρ : Env) : ∀ (vs : List Nat) (j : Nat), (wipeE ρ vs)[j]? = if j ∈ vs then (if j < ρ.length then some none else none) else ρ[j]?
  | [], j => by simp [wipeE]
  | v :: vs, j => by
    unfold wipeE
    rw [set_get, wipeE_length, wipeE_get ρ vs j]
    by_cases h : j = v
    · subst h; simp
    · simp [h]
theorem wipe_of_same {vs ws : List Nat} {a b : St} (h : SameOff ws a b) (hs : ∀ j ∈ ws, j ∈ vs) : wipe b vs = wipe a vs := List.ext_getElem? fun j => by
  rw [wipe_get, wipe_get, h.1]
  by_cases hj : j ∈ vs
  · rw [if_pos hj, if_pos hj]
  · rw [if_neg hj, if_neg hj, h.2 j fun z => hj (hs j z)]
theorem wipe_wipe (σ : St) (vs : List Nat) : wipe (wipe σ vs) vs = wipe σ vs := List.ext_getElem? fun j => by
  rw [wipe_get, wipe_get, wipe_length]
  by_cases hj : j ∈ vs
  · rw [if_pos hj, if_pos hj]
  · rw [if_neg hj, if_neg hj]
section
variable {w : World} {K : PySem.W.Frag} {p : Option V} {H H' : Hp} {σ σ2 : St} {ρ : Env} {G : Fps} {vs : List Nat}
/-- the frame of a block gives way to the frame around, or the other way round: all but the slots vs agree -/
theorem Fit.wipe (F : Fit w K p H σ ρ G) (hl : σ2.length = σ.length) (hs : ∀ j, j ∉ vs → σ2[j]? = σ[j]?) (hp : 0 ∉ vs ∨ p = none) : Fit w K p H σ2 (wipeE ρ vs) (wipeF G vs) where
  rep := fun j d h => by
    rw [wipeE_get] at h
    by_cases hj : j ∈ vs
    · rw [if_pos hj] at h
      split at h <;> cases h
    · rw [if_neg hj] at h
      obtain ⟨v, e, r⟩ := F.rep j d h
      exact ⟨v, by rw [hs j hj]; exact e, by unfold wipeF; rw [if_neg hj]; exact r⟩
  emp := fun j h => by
    unfold wipeF
    by_cases hj : j ∈ vs
    · rw [if_pos hj]
    · rw [if_neg hj]
      exact F.emp j fun d z => h d (by rw [wipeE_get, if_neg hj]; exact z)
  nod := fun j => by
    unfold wipeF
    split
    · exact .nil
    · exact F.nod j
  dj := fun i j a hi hj => by
    unfold wipeF at hi hj
    split at hi
    · cases hi
    · split at hj
      · cases hj
      · exact F.dj i j a hi hj
  len := by rw [wipeE_length, hl]; exact F.len
  pin := fun v e => by
    rcases hp with z | z
    · rw [hs 0 z]; exact F.pin v e
    · rw [z] at e; cases e
theorem sub_wipeF : ∀ k a, a ∈ wipeF G vs k → ∃ j, a ∈ G j := fun k a z => by
  unfold wipeF at z
  split at z
  · cases z
  · exact ⟨k, z⟩
/-- an object apart is written -/
theorem Fit.off (F : Fit w K p H σ ρ G) {D : Addr} {xs : List V} {o : HO} (hD : H D = some (.lst xs)) (n : ∀ i, D ∉ G i) : Fit w K p (upd H D o) σ ρ G := by
  refine ⟨fun i d h => ?_, F.emp, F.nod, F.dj, F.len, F.pin⟩
  obtain ⟨v, e, r⟩ := F.rep i d h
  refine ⟨v, e, r.mono (fun a u hu pm => ?_) d _ _ fun a ha u hu => ?_⟩
  · rw [upd_ne (fun z => by rw [z, hD] at hu; cases hu; exact pm)]; exact hu
  · rw [upd_ne (fun z => n i (by rw [← z]; exact ha))]; exact hu
theorem Reps.off {fp : List Addr} {vs : List V} {ds : List D} {D : Addr} {xs : List V} {o : HO} (hD : H D = some (.lst xs)) (n : D ∉ fp) (r : Reps w K H fp vs ds) : Reps w K (upd H D o) fp vs ds :=
  r.mono (fun a u hu pm => by rw [upd_ne (fun z => by rw [z, hD] at hu; cases hu; exact pm)]; exact hu) ds _ _ fun a ha u hu => by rw [upd_ne (fun z => n (by rw [← z]; exact ha))]; exact hu
end
theorem Reps.append {w : World} {K : PySem.W.Frag} {H : Hp} : ∀ {fp gp : List Addr} {us vs : List V} {cs ds : List D}, Reps w K H fp us cs → Reps w K H gp vs ds → Reps w K H (fp ++ gp) (us ++ vs) (cs ++ ds)
  | _, _, _, _, _, _, .nil, s => s
  | _, _, _, _, _, _, .cons r t, s => by
    have := Reps.cons r (Reps.append t s)
    rw [← List.append_assoc] at this
    exact this

/-! ### a list comprehension -/
def dYes : TDT := fun ρ Q => Q true ρ
/-- the turns of a comprehension: what is left to be walked, the items so far -/
def compD (g : TGD) (tt : TDT) (te : TDE) (vs : List Nat) (Q : List D → Env → Prop) : List D → List D → Env → Prop
  | [], acc, ρ => Q acc (wipeE ρ vs)
  | d :: ds, acc, ρ => g d (wipeE ρ vs) fun ρ1 => tt ρ1 fun b ρ2 => if b = true then te ρ2 fun x ρ3 => ∃ dy ρ4, takeO x ρ3 = some (dy, ρ4) ∧ acc.length < sizeLine ∧ compD g tt te vs Q ds (acc ++ [dy]) ρ4 else compD g tt te vs Q ds acc ρ2
def dComp (ti : TDI) (g : TGD) (tt : TDT) (te : TDE) (vs : List Nat) : TDE := fun ρ Q => ti ρ fun items ρ1 => compD g tt te vs (fun acc ρ2 => Q (.val (.lst true acc)) ρ2) items [] ρ1
theorem PTs.imp {X : Cx} {e : List Expr} {t t' : TT} (h : PTs X e t) (m : ∀ σ H Q, t' σ H Q → t σ H Q) : PTs X e t' := ⟨fun pins s σ H Q I q => h.run pins s σ H Q I (m σ H Q q)⟩
theorem pts_d0 {X : Cx} {p : Option V} : PTs X [] (tT X.w X.K p dYes) := PTs.imp pts_nil fun σ H Q ⟨ρ, G, P, F, k, q⟩ => q _ _ H G k F (.refl G H)
theorem pts_d1 {X : Cx} {p : Option V} {c : Expr} {t : TDT} (h : PT X c (tT X.w X.K p t)) : PTs X [c] (tT X.w X.K p t) := pts_one h
section
variable {w : World} {K : PySem.W.Frag} {p : Option V}
/-- the reading of a comprehension's loop -/
theorem comp_lc {ti : TDI} {g : TGD} {tt : TDT} {te : TDE} {vs ws : List Nat} (hp : 0 ∉ vs ∨ p = none) (hsub : ∀ j ∈ ws, j ∈ vs) {σ : St} {H : Hp} {Q : VK} (h : tE w K p (dComp ti g tt te vs) σ H Q) :
    tLc (tI w K p ti) (tG w K p ws g) (tT w K p tt) (tE w K p (dTake te)) vs σ H Q := by
  obtain ⟨ρ, G, P, F, k, q⟩ := h
  refine ⟨ρ, G, _, F, k, fun items ρ1 J H1 G1 h1 F1 e1 hJ qD hD => ?_⟩
  let QQ : List D → Env → Prop := fun acc ρ2 => P (.val (.lst true acc)) ρ2
  -- what stays true from turn to turn, over the frame around
  let Good : List D → Hp → Prop := fun left H2 => ∃ ρ2 G2 acc xs fp, Fit w K p H2 σ (wipeE ρ2 vs) G2 ∧ Evo G1 H1 G2 H2 ∧ H2 qD = some (.lst xs) ∧ Reps w K H2 fp xs acc ∧ fp.Nodup ∧ (∀ a ∈ fp, ∀ i, a ∉ G2 i) ∧ Nw G1 H1 fp ∧ qD ∉ fp ∧ (∀ i, qD ∉ G2 i) ∧ compD g tt te vs QQ left acc ρ2
  have sD := same_upd (o := .lst []) hD
  refine ⟨fun i m H2 => m = items.length - i ∧ i ≤ items.length ∧ Good (items.drop i) H2, ⟨_, rfl, Nat.zero_le _, ρ1, _, [], [], [], (F1.grow sD).wipe rfl (fun _ _ => rfl) hp, (Evo.grow sD).sub sub_wipeF, upd_same, .nil, .nil, (fun _ z => nomatch z), .nil, (fun z => nomatch z), fun i z => ?_, h1⟩, ?_⟩
  · obtain ⟨j, hj⟩ := sub_wipeF i qD z
    exact F1.fresh hD j hj
  rintro i m H2 ⟨rfl, hi, ρ2, G2, acc, xs, fp, F2, e2, hD2, rA, ndA, apA, nwA, nDf, nDG, h2⟩
  have pm12 := F1.perm e2
  obtain ⟨go, stop⟩ := hJ H2 pm12
  by_cases hlt : i < items.length
  · refine .inr ⟨(go i items[i] (List.getElem?_eq_getElem hlt)).1, Good (items.drop (i + 1)), fun H' z => ⟨items.length - (i + 1), by omega, rfl, hlt, z⟩, fun x H3 y => ?_⟩
    obtain ⟨s3, r3⟩ := (go i items[i] (List.getElem?_eq_getElem hlt)).2 x H3 y
    rw [List.drop_eq_getElem_cons hlt] at h2
    have hw : wipe (wipe σ vs) vs = wipe σ vs := wipe_wipe σ vs
    -- into the block
    have F3 : Fit w K p H3 (wipe σ vs) (wipeE ρ2 vs) (wipeF G2 vs) := by
      have := (F2.grow s3).wipe (σ2 := wipe σ vs) (vs := vs) (wipe_length _ _) (fun j hj => by rw [wipe_get, if_neg hj]) hp
      rw [show wipeE (wipeE ρ2 vs) vs = wipeE ρ2 vs from List.ext_getElem? fun j => by rw [wipeE_get, wipeE_get, wipeE_length]; split <;> rfl] at this
      exact this
    have e3 : Evo G1 H1 (wipeF G2 vs) H3 := (e2.trans (.grow s3)).sub sub_wipeF
    have hD3 := s3 _ _ hD2
    have nD3 : ∀ i, qD ∉ wipeF G2 vs i := fun i z => by obtain ⟨j, hj⟩ := sub_wipeF i qD z; exact nDG j hj
    have rA3 : Reps w K H3 fp xs acc := rA.mono (fun a o h _ => s3 a o h) acc _ _ fun a _ o h => s3 a o h
    have apA3 : ∀ a ∈ fp, ∀ i, a ∉ wipeF G2 vs i := fun a ha i z => by obtain ⟨j, hj⟩ := sub_wipeF i a z; exact apA a ha j hj
    refine ⟨items[i], wipeE ρ2 vs, _, _, F3, r3, h2, fun ρ4 σ4 G4 h4 F4 n4 s4 => ⟨by rw [wipe_of_same s4 hsub, hw], ρ4, G4, _, F4, h4, fun b ρ5 H5 G5 h5 F5 e5 => ?_⟩⟩
    have e34 : Evo (wipeF G2 vs) H3 G4 H3 := (Evo.refl _ _).sub n4
    -- back to the frame around, behind any later state of the block
    have back : ∀ {ρ' H' G'}, Fit w K p H' σ4 ρ' G' → Fit w K p H' σ (wipeE ρ' vs) (wipeF G' vs) := fun {ρ' H' G'} F' => F'.wipe (by
      have := congrArg List.length (wipe_of_same s4 hsub)
      rw [wipe_length, wipe_length, wipe_length] at this
      exact this.symm) (fun j hj => by
      have a1 := s4.2 j fun z => hj (hsub j z)
      rw [wipe_get, if_neg hj] at a1
      exact a1.symm) hp
    have keepD : ∀ {G' H'}, Evo (wipeF G2 vs) H3 G' H' → H' qD = some (.lst xs) ∧ ∀ i, qD ∉ G' i := fun {G' H'} e => ⟨e.keep qD _ hD3 nD3, F3.apart e hD3 nD3⟩
    have keepA : ∀ {G' H'}, Evo (wipeF G2 vs) H3 G' H' → Reps w K H' fp xs acc ∧ ∀ a ∈ fp, ∀ i, a ∉ G' i := fun {G' H'} e => ⟨rA3.evo F3 e apA3, fun a ha => by
      obtain ⟨o, ho, _⟩ := rA3.own acc _ _ a ha
      exact F3.apart e ho (apA3 a ha)⟩
    have e35 := e34.trans e5
    cases b with
    | false =>
      obtain ⟨d1, d2⟩ := keepD e35
      obtain ⟨a1, a2⟩ := keepA e35
      refine iteF ⟨ρ5, wipeF G5 vs, acc, xs, fp, back F5, (e3.trans e35).sub sub_wipeF, d1, a1, ndA, fun a ha i z => ?_, nwA, nDf, fun i z => ?_, h5⟩
      · obtain ⟨j, hj⟩ := sub_wipeF i a z; exact a2 a ha j hj
      · obtain ⟨j, hj⟩ := sub_wipeF i qD z; exact d2 j hj
    | true =>
      refine iteT ⟨ρ5, G5, onVal fun dy ρ6 => acc.length < sizeLine ∧ compD g tt te vs QQ (items.drop (i + 1)) (acc ++ [dy]) ρ6, F5, h5, fun xo ρ6 v6 H6 G6 fp6 h6 F6 e6 n6 r6 => ?_⟩
      cases xo with
      | slot j => exact h6.elim
      | val dy =>
        obtain ⟨hz, h6⟩ := h6
        obtain ⟨r6, nd6, ap6⟩ := r6
        have e36 := e35.trans e6
        obtain ⟨d1, d2⟩ := keepD e36
        obtain ⟨a1, a2⟩ := keepA e36
        have nD6 : qD ∉ fp6 := (n6.back e5).ne hD3 (fun i z => by obtain ⟨j, hj⟩ := n4 i qD z; exact nD3 j hj)
        refine ⟨xs, d1, by rw [rA.length]; exact hz, ρ6, wipeF G6 vs, acc ++ [dy], xs ++ [v6], fp ++ (fp6 ++ []), back (F6.off d1 d2), ?_, upd_same, (a1.off d1 nDf).append (.cons (r6.mono (fun a u hu pm => by rw [upd_ne (fun z => by rw [z, d1] at hu; cases hu; exact pm)]; exact hu) dy _ _ fun a ha u hu => by rw [upd_ne (fun z => nD6 (by rw [← z]; exact ha))]; exact hu) .nil), ?_, ?_, ?_, ?_, ?_, h6⟩
        · refine Evo.sub ⟨fun a o ho n => ?_, (e3.trans e36).new, fun a o ho => ?_⟩ sub_wipeF
          · rw [upd_ne (fun z => by rw [z, hD] at ho; cases ho)]
            exact (e3.trans e36).keep a o ho n
          · by_cases ea : a = qD
            · exact ⟨_, by rw [ea]; exact upd_same⟩
            · rw [upd_ne ea]; exact (e3.trans e36).dom a o ho
        · rw [List.append_nil]
          refine List.nodup_append.mpr ⟨ndA, nd6, fun a ha b hb z => ?_⟩
          subst z
          obtain ⟨o, ho, _⟩ := rA3.own acc _ _ a ha
          exact (n6.back e5).ne ho (fun i z => by obtain ⟨j, hj⟩ := n4 i a z; exact apA3 a ha j hj) hb
        · intro a ha i z
          obtain ⟨j, hj⟩ := sub_wipeF i a z
          rw [List.append_nil] at ha
          rcases List.mem_append.mp ha with y | y
          · exact a2 a y j hj
          · exact ap6 a y j hj
        · rw [List.append_nil]
          exact nwA.append (((n6.back e5).back e34).back e3)
        · rw [List.append_nil]
          exact fun z => (List.mem_append.mp z).elim nDf nD6
        · intro i z
          obtain ⟨j, hj⟩ := sub_wipeF i qD z
          exact d2 j hj
  · have e : i = items.length := by omega
    subst e
    rw [List.drop_length] at h2
    refine .inl ⟨stop, q _ _ (.ref qD) H2 G2 (qD :: fp) h2 F2 (e1.trans e2) (fun a ha => ?_) ⟨.lstO hD2 rA, List.nodup_cons.mpr ⟨nDf, ndA⟩, fun a ha i => ?_⟩⟩
    · rcases List.mem_cons.mp ha with rfl | ha
      · exact .inr (e1.free hD)
      · exact (nwA.back e1) a ha
    · rcases List.mem_cons.mp ha with rfl | ha
      · exact nDG i
      · exact apA a ha i
end
end KW
/-! KWfg: promises where nothing guards (repr is free); the law's end over them. -/
namespace KW
open PySem PySem.Spec L2
open PyProof.Rows hiding St

/-- a promise of the def at f, for callers around whom no guard stands -/
structure FnG (P : Program) (w : World) (K : PySem.W.Frag) (mg : Str → Option Value) (base : Heap) (CX : CXT) (k : Nat) (f : Addr) (fd : FuncData) (ps : List Str) (sp : Sp) : Prop where
  len : ∀ vs H Q E, sp vs H Q E → vs.length = ps.length
  go : ∀ (A : Around) (outer : List _root_.PySem.Env) (s : Shared) (H : Hp) (args : Args) (us : List Value) (vs : List V) (Q : VK) (E : XK), A.guards = some [] → Room k A → Env0 P w K mg base A outer s H →
    BindsTo s fd args (ps.zip us) → Vals vs us → sp vs H Q E → codeAny (model P w) A (.call (.ref f) args) (CR CX outer P w H s Q E) s
theorem FnG.up {P : Program} {w : World} {K : PySem.W.Frag} {mg : Str → Option Value} {base : Heap} {CX : CXT} {j k : Nat} {f : Addr} {fd : FuncData} {ps : List Str} {sp : Sp} (F : FnG P w K mg base CX j f fd ps sp) (h : j ≤ k) : FnG P w K mg base CX k f fd ps sp :=
  ⟨F.len, fun A o s H a us vs Q E hg hr => F.go A o s H a us vs Q E hg (hr.mono h)⟩
theorem FnG.imp {P : Program} {w : World} {K : PySem.W.Frag} {mg : Str → Option Value} {base : Heap} {CX : CXT} {k : Nat} {f : Addr} {fd : FuncData} {ps : List Str} {sp sp' : Sp} (F : FnG P w K mg base CX k f fd ps sp)
    (h : ∀ vs H Q E, sp' vs H Q E → sp vs H Q E) : FnG P w K mg base CX k f fd ps sp' :=
  ⟨fun vs H Q E q => F.len vs H Q E (h _ _ _ _ q), fun A o s H a us vs Q E hg hr he hb hv hs => F.go A o s H a us vs Q E hg hr he hb hv (h _ _ _ _ hs)⟩
section
variable {P : Program} {w : World} {K : PySem.W.Frag} {mg : Str → Option Value} {base : Heap} {x qual : Str} {params : Arguments} {body : List Stmt} {scope : Scope} {dvs : List V} {kws : List (Str × V)} {f : Addr} {fd : FuncData}
/-- how a body's end lies behind the call -/
theorem end_cr {CX : CXT} {X : Cx} {outer : List _root_.PySem.Env} {s s' : Shared} {H : Hp} {Q : VK} {E : XK} {fl : Flow} (hf : X.fs = frs outer) (hx : X.ex = []) (h0 : X.H_0 = H) (hs : X.s_0 = s) (hP : X.prog = P) (hw : X.w = w)
    (h : SP X [] { nx := fun _ H' => Q .non H', rt := Q } fl s') : ∀ r, (r = Except.ok (Flow.ret (match (fl : Flow) with | .ret u => u | _ => .none))) → CR CX outer P w H s Q E r s' := by
  intro r er
  subst h0 hs hP hw
  have key : ∀ {σ : L2.St} {H' : Hp} {v : V} {u : Value}, Inv X [] σ H' s' → RelV v u → Q v H' → CE outer X.prog X.w X.H_0 X.s_0 Q u s' := fun {σ H' v u} J rv q =>
    ⟨v, H', J.os, J.bare, by have b := J.base; rw [hf, hx] at b; exact b, J.hok, rv, q⟩
  cases fl with
  | ret u => obtain ⟨v, σ, H', J, rv, q⟩ := h; subst er; exact key J rv q
  | next => obtain ⟨σ, H', J, q⟩ := h; subst er; exact key (v := V.non) J rfl q
  | brk => obtain ⟨_, _, _, q⟩ := h; exact q.elim
  | cont => obtain ⟨_, _, _, q⟩ := h; exact q.elim
/-- a def by its body's reading -/
theorem okG {CX : CXT} {N ps : List Str} {k : Nat} {sp : Sp} (F : FunD K x qual params body scope dvs kws f fd) (S : FnScope N ps scope) (len : ∀ vs H Q E, sp vs H Q E → vs.length = ps.length)
    (bd : ∀ (cdv : Value) (A : Around) (outer : List _root_.PySem.Env) (s : Shared) (H : Hp) (vs : List V) (Q : VK) (E : XK), A.guards = some [] → Room k (A.deeper (envOfC qual scope s.heap.objs.size f cdv)) → sp vs H Q E →
      ∃ t, PSs (cxOf CX P w K mg base N qual scope f cdv A outer s H E) body t ∧ t { nx := fun _ H' => Q .non H', rt := Q } (L2.start N vs) H) : FnG P w K mg base CX (k + 1) f fd ps sp := by
  obtain ⟨oc, od, dV, kV, doc, pm, an, cdv, ct, osl, rfl, lk, hcd, _, _⟩ := F.ex
  refine ⟨len, fun A outer s H args us vs Q E hg hr e0 hb r hsp => ?_⟩
  have up : ∀ b o, base.get? b = some o → s.heap.get? b = some o := fun b o e => (e0.bs b o e).1
  have Kin := e0.mod.kin.keeps up
  have Lim := e0.mod.nolimit.keeps up
  have kinds : ∀ y ∈ ps.zip us, scope.names.lookup y.1 = some .local ∨ (scope.names.lookup y.1 = some .cell ∧ ((cellsFrom (s.heap.objs.size + 1) scope.names []).lookup y.1).isSome = true) := by
    rintro ⟨n, v⟩ hy
    exact (S.par n (List.of_mem_zip hy).1).imp id fun q => ⟨q, PySem.W.cellsFrom_some _ _ _ (.inl q)⟩
  refine codeAny_call_function hr.depth (Kin _ _ lk) rfl S.co S.gen rfl (PySem.W.codeRec_of Kin hcd) (hb _ _ _ _ (wpAny_newFunctionEnv_cells S.kind kinds ?_))
  rintro env rfl s1 ic
  obtain ⟨t, ht, hq⟩ := bd cdv A outer s H vs Q E hg (hr.deeper _) hsp
  have I := inv_start (CX := CX) (P := P) (w := w) (E := E) S hr.hd e0 (len _ _ _ _ hsp) r ic
  exact ⟨Lim.keeps ic.toInCall.keep, codeAny_func (wpAny_mono (ht.run [] s1 _ H _ I hq) (fun fl s' hs => end_cr rfl rfl rfl rfl rfl rfl hs _ (by cases fl <;> rfl)) fun _ _ z => z)⟩
/-- .. that lets no exception out -/
theorem okG0 {N ps : List Str} {k : Nat} {sp : Sp} (F : FunD K x qual params body scope dvs kws f fd) (S : FnScope N ps scope) (len : ∀ vs H Q E, sp vs H Q E → vs.length = ps.length)
    (bd : ∀ (cdv : Value) (A : Around) (outer : List _root_.PySem.Env) (s : Shared) (H : Hp) (vs : List V) (Q : VK) (E : XK), A.guards = some [] → Room k (A.deeper (envOfC qual scope s.heap.objs.size f cdv)) → sp vs H Q E →
      ∃ t, PSs (cxOf CX0 P w K mg base N qual scope f cdv A outer s H E).nox body t ∧ t { nx := fun _ H' => Q .non H', rt := Q } (L2.start N vs) H) : FnG P w K mg base CX0 (k + 1) f fd ps sp :=
  okG F S len fun cdv A o s H vs Q E hg hr h => let ⟨t, a, b⟩ := bd cdv A o s H vs Q E hg hr h; ⟨t, a.nox, b⟩
end
/-! ### calls -/
section
variable {X : Cx} {CX : CXT} {k : Nat} {f : Addr} {fd : FuncData} {ps : List Str} {sp : Sp} {dvs : List V} {ds : List Value} {E : XK} {x : Str} {p pos : Pos} {e : Expr} {es : List Expr} {t : TA}
theorem runG {pins : List (Addr × Obj)} {σ : L2.St} {H : Hp} {s : Shared} {Q : VK} {us : List Value} {vs : List V} (F : FnG X.prog X.w X.K X.mg X.base CX k f fd ps sp) (hg : X.A.guards = some []) (hr : Room k X.A) (hb : Binds X.K fd ps ds) (hd : Vals dvs ds) (hx : Passes CX X E)
    (I : Inv X pins σ H s) (r : Vals vs us) (h : sp (vs ++ dvs) H Q E) : wpAny (model X.prog X.w) X.A (call (.ref f) us) (EP X pins σ Q) X.xe s := by
  have r2 := r.append hd
  have hl := r2.length.symm.trans (F.len _ _ _ _ h)
  have go := F.go X.A X.stack s H ⟨us, []⟩ (us ++ ds) (vs ++ dvs) Q E hg hr I.env0 (hb s us I.kIn hl) r2 h
  refine wpAny_call (codeAny_mono go ?_)
  rintro (e | fl) s' hq
  · exact hx pins σ H s e s' I hq
  · cases fl
    case ret u => exact I.after hq
    all_goals exact False.elim hq
theorem pe_callG (F : FnG X.prog X.w X.K X.mg X.base CX k f fd ps sp) (hgu : X.A.guards = some []) (hr : Room k X.A) (hg : Gl X x) (hm : X.mg x = some (.ref f)) (hk : PySem.W.keepIn X.K (.ref f) = true) (hb : Binds X.K fd ps ds) (hd : Vals dvs ds) (hx : Passes CX X E)
    (ha : PA X (e :: es) t) (hdb : (x == ("__debug__" : Str)) = false := by decide) (he : starEach (e :: es) X.env = (false, eval e X.env) :: starEach es X.env := by rfl) (hpl : (backTo pos (starEach es X.env)).any (·.1) = false := by rfl) :
    PE X (.Call (.Name x p) (e :: es) [] pos) (tCall sp dvs E t) := by
  constructor
  intro pins s σ H Q I h
  have K1 := thn (Q' := fun us s1 => X.K.In s1.heap ∧ wpAny (model X.prog X.w) X.A (call (.ref f) us) (EP X pins σ Q) X.xe s1) (ha.run pos pins s σ H _ I h) fun us s1 ⟨vs, H1, I1, r, q⟩ => ⟨I1.kIn, runG F hgu hr hb hd hx I1 r q⟩
  exact wpAny_Call_Name_kw (ld_glob I hg hm (PySem.W.callWith_K (h₀ := X.base) I.ok.mod.kin hk K1 he hpl) hdb)
theorem pe_callG0 (F : FnG X.prog X.w X.K X.mg X.base CX k f fd ps sp) (hgu : X.A.guards = some []) (hr : Room k X.A) (hg : Gl X x) (hm : X.mg x = some (.ref f)) (hk : PySem.W.keepIn X.K (.ref f) = true) (hb : Binds X.K fd ps ds) (hd : Vals dvs ds) (hx : Passes CX X E)
    (hdb : (x == ("__debug__" : Str)) = false := by decide) : PE X (.Call (.Name x p) [] [] pos) (tCall sp dvs E tNil) :=
  ⟨fun pins s σ H Q I h => wpAny_Call_Name_kw (ld_glob I hg hm (PySem.W.callWith_K0 I.kIn hk (runG (us := []) F hgu hr hb hd hx I .nil h)) hdb)⟩
end
/-! ### the law's end -/
/-- a law whose promise wants no guards -/
theorem law_callG {P : Program} {w : World} {K : PySem.W.Frag} {mg mb : Str → Option Value} {CX : CXT} {k : Nat} {fa a : Addr} {fd : FuncData} {x : Str} {sp : Sp} {s₁ : Shared} {vs : List Value} {ns : List Int}
    (KX : K.In s₁.heap) (hns : s₁.heap.Ns mainGlobals mg) (hb : s₁.heap.Ns builtinsNs mb) (hbb : ∀ x : Str, x ≠ "__name__" → mb x = bootBuiltins x) (hlim : s₁.heap.NoLimit) (hg : s₁.gens = #[])
    (ha : s₁.heap.get? a = some { cls := .type "list", data := .seq vs.toArray }) (hi : IntsAre vs ns) (hl : ns.length ≤ sizeLine) (hr : Room k callerA)
    (F : ∀ base : Heap, K.In base → base.Ns mainGlobals mg → FnG P w K mg base CX k fa fd [x] sp) (hbind : ∀ (s : Shared) (u : Value), BindsTo s fd ⟨[u], []⟩ [(x, u)])
    (hsp : ∀ H : Hp, Only H → SqL K H a (ns.map V.int) → sp [.ref a] H (fun v _ => v = .bl true) fun _ _ _ => False)
    (hCX : ∀ H e s', CX [] H s₁ (fun _ _ _ => False) e s' → False) :
    codeAny (model P w) callerA (.call (.ref fa) ⟨[.ref a], []⟩) (fun r s' => r = .ok (.ret (.bool true)) ∧ OldK s₁.heap s'.heap ∧ s'.os = s₁.os ∧ AllBare s'.gens) s₁ := by
  have rv := vals_ints hi
  obtain ⟨H, hO, hS, hok, hA, hK⟩ : ∃ H : Hp, Only H ∧ SqL K H a (ns.map V.int) ∧ HOk P w H s₁.heap ∧ (∀ b, H b ≠ none → b = a) ∧ (H a ≠ none → K.lookup a = none) := by
    cases hk : K.lookup a with
    | some o =>
      have e := (KX a o hk).symm.trans ha
      cases e
      exact ⟨fun _ => none, fun _ => .inl rfl, .inr ⟨_, vs.toArray, _, hk, rfl, rfl, rfl, by rw [List.size_toArray, hi.length]; exact hl, by simpa using rv⟩, (fun b u z => nomatch (show (none : Option HO) = some u from z)), fun b z => absurd rfl z, fun z => absurd rfl z⟩
    | none =>
      let so : Obj := { cls := .type "list", data := .seq vs.toArray }
      have at_a : ∀ b u, (if b = a then some (HO.frz so (.lst (ns.map V.int))) else none) = some u → b = a ∧ u = HO.frz so (.lst (ns.map V.int)) := fun b u z => by
        split at z
        · cases z; exact ⟨by assumption, rfl⟩
        · cases z
      refine ⟨fun b => if b = a then some (.frz so (.lst (ns.map V.int))) else none, fun b => ?_, .inl (.inr ⟨so, if_pos rfl⟩), fun b u z => ?_, fun b z => ?_, fun _ => rfl⟩
      · rcases Decidable.em (b = a) with q | q
        · exact .inr ⟨so, _, if_pos q⟩
        · exact .inl (if_neg q)
      · obtain ⟨rfl, rfl⟩ := at_a b u z
        exact ⟨ha, by rw [List.length_map]; exact hl, vs, _, rv, ha⟩
      · cases q : (if b = a then some (HO.frz so (.lst (ns.map V.int))) else none) with
        | none => exact absurd q z
        | some u => exact (at_a b u q).1
  have pos : ∀ {b : Addr} {o : Obj}, s₁.heap.get? b = some o → (b ≠ a ∨ K.lookup a ≠ none) → H b = none := fun {b o} e z => by
    cases q : H b with
    | none => rfl
    | some u =>
      have eb := hA b (by rw [q]; exact fun y => nomatch y)
      subst eb
      rcases z with z | z
      · exact absurd rfl z
      · exact absurd (hK (by rw [q]; exact fun y => nomatch y)) z
  have low : ∀ {b : Addr} {o : Obj}, s₁.heap.get? b = some o → H b = none → (hidT s₁.heap H).get? b = some o := fun e n => hidT_get e n
  have ns' : ∀ {b : Addr} {m : Str → Option Value}, s₁.heap.Ns b m → (hidT s₁.heap H).Ns b m := fun {b m} h => by
    obtain ⟨o, es, ep, e, d, r⟩ := h
    refine ⟨o, es, ep, low e (pos e (.inl fun z => ?_)), d, r⟩
    subst z
    cases ha.symm.trans e
    cases d
  have Kb : K.In (hidT s₁.heap H) := fun b o e => low (KX b o e) (by
    by_cases z : b = a
    · subst z; exact pos (KX _ o e) (.inr (by rw [e]; exact fun y => nomatch y))
    · exact pos (KX b o e) (.inl z))
  have M : Mod K mg (hidT s₁.heap H) := ⟨Kb, ns' hns, ⟨mb, ns' hb, hbb⟩, hlim.imp fun mc h => ⟨ns' h.1, h.2⟩⟩
  have e0 : Env0 P w K mg (hidT s₁.heap H) callerA [] s₁ H := ⟨rfl, M, fun b o => of_hidT, Nat.le_of_eq (hidT_size _ _), trivial, fun b hb => (List.not_mem_nil hb).elim, hok, .of_eq hg⟩
  refine codeAny_mono ((F _ Kb (ns' hns)).go callerA [] s₁ H ⟨[.ref a], []⟩ [.ref a] [.ref a] _ _ rfl hr e0 (hbind s₁ (.ref a)) (.cons rfl .nil) (hsp H hO hS)) ?_
  rintro (e | fl) s' h
  · exact (hCX H e s' h).elim
  cases fl
  case ret u =>
    obtain ⟨v, H', os, bare, un, hok', r', rfl⟩ := h
    have r2 : u = Value.bool true := r'
    subst r2
    refine ⟨rfl, OldK.of_keep fun b o e => ?_, os, bare⟩
    rcases hO b with z | ⟨ob, xs, z⟩
    · exact un.keep b o e z (fun y => List.not_mem_nil y) (fun y => List.not_mem_nil y)
    · have a1 := (hok b _ z).1
      have a2 := (hok' b _ (un.frzs b ob _ z)).1
      rw [e] at a1; cases a1
      exact a2
  all_goals exact False.elim h
/-- a law: F gives what is written, the def's object, its promise over every base -/
theorem walk_ofG {l : PySem.W.OpenLaw} {n k : Nat} {q : Program} {loose : List Str} {XP : (Str → Option Value) → Heap → Prop} {YP : World → Heap → Prop} {d : DefRec} {CX : CXT} {x : Str}
    (hn : l.most = some n) (hn2 : n ≤ sizeLine) (hdf : d.params.defaults = []) (hr : Room k callerA)
    (F : ∀ (w : World) (mg : Str → Option Value) (fa : Addr) (h : Heap), YP w h → h.Ns mainGlobals mg → mg d.name = some (.ref fa) →
      ∃ (K : PySem.W.Frag) (fd : FuncData) (sp : Sp), K.In h ∧ (∀ (s : Shared) (u : Value), BindsTo s fd ⟨[u], []⟩ [(x, u)]) ∧
        (∀ (H : Hp) (a : Addr) (ns : List Int), ns.length ≤ n → Only H → SqL K H a (ns.map V.int) → sp [.ref a] H (fun v _ => v = .bl true) fun _ _ _ => False) ∧
        ∀ base : Heap, K.In base → base.Ns mainGlobals mg → FnG l.prog w K mg base CX k fa fd [x] sp)
    (hCX : ∀ (H : Hp) (s : Shared) (e : Value) (s' : Shared), CX [] H s (fun _ _ _ => False) e s' → False) :
    PySem.W.WalkO q loose XP YP l.row.toRowW d [] (fun f vs => PySem.call f vs) :=
  Att.attach_call hn hdf fun w s₀ s₁ mg mb fa o pm cd doc a vs ns G Y ho hd hcd hmg hobj hints hlen hg => by
    obtain ⟨K, fd, sp, KX, hb, hsp, hF⟩ := F w mg fa _ Y G.T.g hmg
    exact law_callG KX G.T.g G.T.b G.T.builtins G.T.nolimit hg hobj hints (Nat.le_trans hlen hn2) hr hF hb (fun H hO hS => hsp H a ns hlen hO hS) (fun H e s' => hCX H s₁ e s')
end KW
/-! KWg: comprehensions as expressions; calls; promises of defs. -/
namespace KW
open PySem PySem.Spec L2
open PyProof.Rows hiding St

section
variable {X : Cx} {p : Option V}
theorem pd_lc {elt tg iter : Expr} {ifs : List Expr} {scope : Scope} {own : List (Str × Nat)} {ws : List Nat} {pos : Pos} {ti : TDI} {g : TGD} {tt : TDT} {te : TDE} (hc : X.calm = true) (hN : X.N.Nodup) (hp : 0 ∉ own.map (·.2) ∨ p = none) (hsub : ∀ j ∈ ws, j ∈ own.map (·.2)) (hi : PI X tg iter (tI X.w X.K p ti)) (ok : BlkOk X.N X.env.scope scope own)
    (hg : ∀ (s : Shared) (H : Hp) (C : Addr) (cl : List (Str × Addr)) (fp : List Addr), PG (X.blk s H scope (compEnvC scope cl C X.env) fp) tg (tG X.w X.K p ws g)) (ht : ∀ (s : Shared) (H : Hp) (C : Addr) (cl : List (Str × Addr)) (fp : List Addr), PTs (X.blk s H scope (compEnvC scope cl C X.env) fp) ifs (tT X.w X.K p tt))
    (he : ∀ (s : Shared) (H : Hp) (C : Addr) (cl : List (Str × Addr)) (fp : List Addr), PE (X.blk s H scope (compEnvC scope cl C X.env) fp) elt (tE X.w X.K p te)) (hs : ∀ x, foldedSetIterable iter X.env x = pure x := by intro _; rfl) :
    PE X (.ListComp elt [⟨tg, iter, ifs, 0⟩] scope pos) (tE X.w X.K p (dComp ti g tt te (own.map (·.2)))) :=
  PE.imp (pe_lc hc hN hi ok hg ht (fun s H C cl fp => pd_take (he s H C cl fp)) hs) fun _ _ _ h => comp_lc hp hsub h
/-- x = [..] on one line -/
def dSetC (i : Nat) (te : TDE) : TDS := fun Dd ρ => te ρ (onVal fun d ρ2 => Dd.nx (ρ2.set i (some d)))
theorem pd_setLc (i : Nat) {y : Str} {py : Pos} {elt tg iter : Expr} {ifs : List Expr} {scope : Scope} {own : List (Str × Nat)} {ws : List Nat} {pos spos : Pos} {ti : TDI} {g : TGD} {tt : TDT} {te : TDE} (hc : X.calm = true) (hN : X.N.Nodup) (hpi : i ≠ 0 ∨ p = none) (hp : 0 ∉ own.map (·.2) ∨ p = none) (hsub : ∀ j ∈ ws, j ∈ own.map (·.2)) (hy : X.N[i]? = some y) (hyl : X.env.scope.names.lookup y = some .local)
    (hsw : swapsWith (.ListComp elt [⟨tg, iter, ifs, 0⟩] scope pos) (some (.Name y py)) spos.line X.env = pure true) (hi : PI X tg iter (tI X.w X.K p ti)) (ok : BlkOk X.N X.env.scope scope own)
    (hg : ∀ (s : Shared) (H : Hp) (C : Addr) (cl : List (Str × Addr)) (fp : List Addr), PG (X.blk s H scope (compEnvC scope cl C X.env) fp) tg (tG X.w X.K p ws g)) (ht : ∀ (s : Shared) (H : Hp) (C : Addr) (cl : List (Str × Addr)) (fp : List Addr), PTs (X.blk s H scope (compEnvC scope cl C X.env) fp) ifs (tT X.w X.K p tt))
    (he : ∀ (s : Shared) (H : Hp) (C : Addr) (cl : List (Str × Addr)) (fp : List Addr), PE (X.blk s H scope (compEnvC scope cl C X.env) fp) elt (tE X.w X.K p te)) (hs : ∀ x, foldedSetIterable iter X.env x = pure x := by intro _; rfl) :
    PS X (.Assign [.Name y py] (.ListComp elt [⟨tg, iter, ifs, 0⟩] scope pos) spos) (tS X.w X.K p (dSetC i (dComp ti g tt te (own.map (·.2))))) := by
  refine PS.imp (ps_setLc (i := i) hc hN hy hyl hsw hi ok hg ht (fun s H C cl fp => pd_take (he s H C cl fp)) hs) fun D σ H ⟨ρ, G, F, Dd, O, h⟩ => comp_lc (Q := fun x H1 => gName i x σ H1 D.nx) hp hsub ⟨ρ, G, _, F, h, fun x ρ1 v1 H1 G1 fp1 h1 F1 e1 n1 r1 => ?_⟩
  cases x with
  | slot j => exact h1.elim
  | val d =>
    obtain ⟨G', F', e'⟩ := slot_set hpi F1 e1 n1 r1
    exact O.nx _ _ H1 G' F' e' h1

/-! ### promises -/
/-- a def that changes nothing: frozen arguments, a new result -/
def spP (w : World) (K : PySem.W.Frag) (n : Nat) (F : List D → (D → Prop) → Prop) : Sp := fun vs H Q _ => ∃ ds P, ds.length = n ∧ Reps w K H [] vs ds ∧ F ds P ∧ ∀ d, P d → Res w K H d Q
/-- a def that may change its first argument -/
def spI (w : World) (K : PySem.W.Frag) (n : Nat) (F : D → List D → (D → D → Prop) → Prop) : Sp := fun vs H Q _ => ∃ v0 vr d0 ds fp P, vs = v0 :: vr ∧ ds.length + 1 = n ∧ Rep w K H fp v0 d0 ∧ fp.Nodup ∧ Reps w K H [] vr ds ∧ F d0 ds P ∧
  ∀ d d0' v H' gp fp', P d d0' → (∀ a o, H a = some o → a ∉ fp → H' a = some o) → (∀ a o, H a = some o → ∃ o', H' a = some o') → (∀ a ∈ fp', a ∈ fp ∨ H a = none) → (∀ a ∈ gp, a ∈ fp ∨ H a = none) → (∀ a ∈ gp, a ∉ fp') → gp.Nodup → fp'.Nodup → Rep w K H' fp' v0 d0' → Rep w K H' gp v d → Q v H'
def dCallU (n : Nat) (F : List D → (D → Prop) → Prop) (t : TDZ) : TDE := fun ρ Q => t ρ fun ds ρ1 => ds.length = n ∧ F ds fun d => Q (.val d) ρ1
def dCallI (i n : Nat) (F : D → List D → (D → D → Prop) → Prop) (t : TDZ) : TDE := fun ρ Q => (∃ d, ρ.getD i none = some d) ∧ t ρ fun ds ρ1 => ds.length + 1 = n ∧ ∃ d0, ρ1.getD i none = some d0 ∧ F d0 ds fun d d0' => Q (.val d) (ρ1.set i (some d0'))
variable {CX : CXT} {k n : Nat} {f : Addr} {fd : FuncData} {ps : List Str} {E : XK} {x : Str} {p' pos : Pos} {e : Expr} {es : List Expr} {t : TDZ} {F : List D → (D → Prop) → Prop} {FI : D → List D → (D → D → Prop) → Prop}
theorem pd_call (Fn : FnG X.prog X.w X.K X.mg X.base CX k f fd ps (spP X.w X.K n F)) (hgu : X.A.guards = some []) (hr : Room k X.A) (hg : Gl X x) (hm : X.mg x = some (.ref f)) (hk : PySem.W.keepIn X.K (.ref f) = true) (hb : Binds X.K fd ps []) (hx : Passes CX X E)
    (ha : PA X (e :: es) (tF X.w X.K p t)) (hdb : (x == ("__debug__" : Str)) = false := by decide) (he : starEach (e :: es) X.env = (false, eval e X.env) :: starEach es X.env := by rfl) (hpl : (backTo pos (starEach es X.env)).any (·.1) = false := by rfl) :
    PE X (.Call (.Name x p') (e :: es) [] pos) (tE X.w X.K p (dCallU n F t)) := by
  refine PE.imp (pe_callG Fn hgu hr hg hm hk hb .nil hx ha hdb he hpl) fun σ H Q ⟨ρ, G, P, Ft, k, q⟩ => ⟨ρ, G, _, Ft, k, fun ds ρ1 vs H1 G1 h1 F1 e1 r1 => ?_⟩
  obtain ⟨hl, h1⟩ := h1
  rw [List.append_nil]
  exact ⟨ds, _, hl, r1, h1, fun d pp => res_of F1 e1 fun v H' G' fp => q _ _ v H' G' fp pp⟩
theorem pd_call0 (Fn : FnG X.prog X.w X.K X.mg X.base CX k f fd ps (spP X.w X.K 0 F)) (hgu : X.A.guards = some []) (hr : Room k X.A) (hg : Gl X x) (hm : X.mg x = some (.ref f)) (hk : PySem.W.keepIn X.K (.ref f) = true) (hb : Binds X.K fd ps []) (hx : Passes CX X E)
    (hdb : (x == ("__debug__" : Str)) = false := by decide) : PE X (.Call (.Name x p') [] [] pos) (tE X.w X.K p (dCallU 0 F zNil)) := by
  refine PE.imp (pe_callG0 Fn hgu hr hg hm hk hb .nil hx hdb) fun σ H Q ⟨ρ, G, P, Ft, ⟨hl, h1⟩, q⟩ => ?_
  exact ⟨[], _, hl, .nil, h1, fun d pp => res_of Ft (.refl G H) fun v H' G' fp => q _ _ v H' G' fp pp⟩
/-- f(x, e, ..): x a slot that f may change -/
theorem pd_callI (i : Nat) {y : Str} {yp : Pos} (Fn : FnG X.prog X.w X.K X.mg X.base CX k f fd ps (spI X.w X.K n FI)) (hgu : X.A.guards = some []) (hr : Room k X.A) (hg : Gl X x) (hm : X.mg x = some (.ref f)) (hk : PySem.W.keepIn X.K (.ref f) = true) (hb : Binds X.K fd ps []) (hx : Passes CX X E)
    (hy : PE X (.Name y yp) (tVar i)) (ha : PA X es (tF X.w X.K p t)) (hdb : (x == ("__debug__" : Str)) = false := by decide) (he : starEach (.Name y yp :: es) X.env = (false, eval (.Name y yp) X.env) :: starEach es X.env := by rfl) (hpl : (backTo pos (starEach es X.env)).any (·.1) = false := by rfl) :
    PE X (.Call (.Name x p') (.Name y yp :: es) [] pos) (tE X.w X.K p (dCallI i n FI t)) := by
  refine PE.imp (pe_callG Fn hgu hr hg hm hk hb .nil hx (pa_cons hy ha he) hdb he hpl) fun σ H Q ⟨ρ, G, P, F0, ⟨⟨d, hd⟩, h⟩, q⟩ => ?_
  obtain ⟨v0, ev, _⟩ := F0.rep i d (getD_some hd)
  refine ⟨v0, ev, ρ, G, _, F0, h, fun ds ρ1 vs H1 G1 h1 F1 e1 r1 => ?_⟩
  obtain ⟨hl, d0, g0, h1⟩ := h1
  obtain ⟨v1, ev1, r0⟩ := F1.rep i d0 (getD_some g0)
  rw [ev] at ev1; cases ev1
  rw [List.append_nil]
  refine ⟨v0, vs, d0, ds, G1 i, _, rfl, hl, r0, F1.nod i, r1, h1, fun d d0' v H' gp fp' pp kp dm nw nwg ap ndg ndf rf rg => ?_⟩
  have pm : ∀ a o, H1 a = some o → Perm o → H' a = some o := fun a o ho hp => kp a o ho fun hi => by
    obtain ⟨o', ho', ow⟩ := F1.own hi
    rw [ho] at ho'; cases ho'
    exact ow.np hp
  have F2 : Fit X.w X.K p H' σ (ρ1.set i none) (setF G1 i []) := by
    have Fd := F1.drop i
    refine ⟨fun j d' q => ?_, Fd.emp, Fd.nod, Fd.dj, Fd.len, Fd.pin⟩
    obtain ⟨u, q1, q2⟩ := Fd.rep j d' q
    refine ⟨u, q1, q2.mono pm d' _ _ fun a ha o ho => kp a o ho fun hi => ?_⟩
    by_cases ej : j = i
    · subst ej; rw [setF_same] at ha; cases ha
    · rw [setF_ne ej] at ha; exact ej (F1.dj j i a ha hi)
  have e12 : (ρ1.set i none).set i (some d0') = ρ1.set i (some d0') := by simp
  have e13 : setF (setF G1 i []) i fp' = setF G1 i fp' := by funext j; unfold setF; split <;> rfl
  have apj : ∀ a, (a ∈ G1 i ∨ H1 a = none) → ∀ j, j ≠ i → a ∉ G1 j := fun a ha j hj hm => by
    rcases ha with z | z
    · exact hj (F1.dj j i a hm z)
    · exact F1.fresh z j hm
  have F3 := F2.re ev rf ndf fun a ha j hj hm => by
    rw [setF_ne hj] at hm
    exact apj a (nw a ha) j hj hm
  rw [e12, e13] at F3
  have e2 : Evo G1 H1 (setF G1 i fp') H' := ⟨fun a o ho n => kp a o ho (n i), fun j a hm => by
    by_cases ej : j = i
    · subst ej
      rw [setF_same] at hm
      rcases nw a hm with z | z
      · exact .inl ⟨_, z⟩
      · exact .inr z
    · rw [setF_ne ej] at hm; exact .inl ⟨j, hm⟩, dm⟩
  refine q _ _ v H' _ gp pp F3 (e1.trans e2) (Nw.back (fun a ha => ?_) e1) ⟨rg, ndg, fun a ha j hm => ?_⟩
  · rcases nwg a ha with z | z
    · exact .inl ⟨i, z⟩
    · exact .inr z
  · by_cases ej : j = i
    · subst ej; rw [setF_same] at hm; exact ap a ha hm
    · rw [setF_ne ej] at hm; exact apj a (nwg a ha) j ej hm
end

/-! ### a def keeps its promise -/
def startE (N : List Str) (ds : List D) : Env := ds.map some ++ List.replicate (N.length - ds.length) none
section
variable {P : Program} {w : World} {K : PySem.W.Frag} {mg : Str → Option Value} {base : Heap}
theorem start_fit {N : List Str} {H : Hp} {vs : List V} {ds : List D} {p : Option V} (G : Fps) (h : ∀ i d, ds[i]? = some d → ∃ v, vs[i]? = some v ∧ Rep w K H (G i) v d) (hl : vs.length = ds.length) (hG : ∀ i, ds.length ≤ i → G i = []) (nd : ∀ i, (G i).Nodup) (dj : ∀ i j a, a ∈ G i → a ∈ G j → i = j) (hp : ∀ v, p = some v → vs[0]? = some v) :
    Fit w K p H (L2.start N vs) (startE N ds) G := by
  have gE : ∀ i : Nat, (startE N ds)[i]? = if i < ds.length then ds[i]?.map some else if i < N.length then some none else none := fun i => by
    unfold startE
    by_cases hi : i < ds.length
    · rw [if_pos hi, List.getElem?_append_left (by simpa using hi), List.getElem?_map]
    · rw [if_neg hi, List.getElem?_append_right (by simpa using hi), List.getElem?_replicate, List.length_map]
      by_cases h2 : i < N.length
      · rw [if_pos h2, if_pos (by omega)]
      · rw [if_neg h2, if_neg (by omega)]
  refine ⟨fun i d e => ?_, fun i e => ?_, nd, dj, ?_, fun v e => ?_⟩
  · rw [gE] at e
    by_cases hi : i < ds.length
    · rw [if_pos hi] at e
      cases q : ds[i]? with
      | none => rw [q] at e; cases e
      | some d' =>
        rw [q] at e
        have e : d' = d := Option.some.inj (Option.some.inj e)
        subst e
        obtain ⟨v, hv, r⟩ := h i d' q
        refine ⟨v, ?_, r⟩
        unfold L2.start
        rw [List.getElem?_append_left (by rw [List.length_map, hl]; exact hi), List.getElem?_map, hv]
        rfl
    · rw [if_neg hi] at e
      split at e <;> cases e
  · by_cases hi : i < ds.length
    · exact absurd (by rw [gE, if_pos hi, List.getElem?_eq_getElem hi]; rfl) (e ds[i])
    · exact hG i (by omega)
  · unfold startE L2.start
    simp [hl]
  · unfold L2.start
    have hv := hp v e
    have h0 : 0 < vs.length := by
      rcases Nat.eq_zero_or_pos vs.length with z | z
      · rw [List.getElem?_eq_none (by omega)] at hv; cases hv
      · exact z
    rw [List.getElem?_append_left (by simpa using h0), List.getElem?_map, hv]
    rfl
/-- a def that changes nothing keeps its promise -/
theorem fn_pure {x qual : Str} {st : Stmt} {f : Addr} {fd : FuncData} {N ps : List Str} {k n : Nat} {Fd : List D → (D → Prop) → Prop} {td : TDS} (F : FunD K x qual (defArgs st) (defBody st) (defScope st) [] [] f fd) (S : FnScope N ps (defScope st)) (hn : ps.length = n)
    (body : ∀ (cdv : Value) (A : Around) (outer : List _root_.PySem.Env) (s : Shared) (H : Hp) (E : XK), A.guards = some [] → Room k (A.deeper (envOfC qual (defScope st) s.heap.objs.size f cdv)) → PSs (cxOf CX0 P w K mg base N qual (defScope st) f cdv A outer s H E).nox (defBody st) (tS w K none td))
    (rd : ∀ ds Q, ds.length = n → Fd ds Q → td { nx := fun _ => Q .non, rt := fun d _ => Q d } (startE N ds)) : FnG P w K mg base CX0 (k + 1) f fd ps (spP w K n Fd) := by
  refine okG0 F S (fun vs H Q E h => ?_) (fun cdv A outer s H vs Q E hg hr h => ⟨_, body cdv A outer s H E hg hr, ?_⟩)
  · obtain ⟨ds, Pd, hl, r, _⟩ := h
    rw [r.length, hl, hn]
  · obtain ⟨ds, Pd, hl, r, hF, k⟩ := h
    refine ⟨startE N ds, fun _ => [], start_fit _ (fun i d e => r.get e) r.length (fun _ _ => rfl) (fun _ => .nil) (fun _ _ _ z => nomatch z) (fun _ z => nomatch z), _, ⟨?_, ?_, ?_, ?_⟩, rd ds Pd hl hF⟩
    · exact fun σ' ρ' H' G' F' e' h' => k _ h' .non H' [] (fun a o ho => e'.keep a o ho fun _ z => nomatch z) (fun _ z => nomatch z) .nil .non
    · exact fun v d σ' ρ' H' G' fp F' e' nw ap nd r h' => k _ h' v H' fp (fun a o ho => e'.keep a o ho fun _ z => nomatch z) (fun a ha => (nw a ha).elim (fun ⟨_, z⟩ => nomatch z) id) nd r
    · exact fun _ _ _ _ _ _ z => z.elim
    · exact fun _ _ _ _ _ _ z => z.elim
/-- .. one that may change its first argument -/
theorem fn_io {x qual : Str} {st : Stmt} {f : Addr} {fd : FuncData} {N ps : List Str} {k n : Nat} {Fd : D → List D → (D → D → Prop) → Prop} {td : TDS} (F : FunD K x qual (defArgs st) (defBody st) (defScope st) [] [] f fd) (S : FnScope N ps (defScope st)) (hn : ps.length = n)
    (body : ∀ (v0 : V) (cdv : Value) (A : Around) (outer : List _root_.PySem.Env) (s : Shared) (H : Hp) (E : XK), A.guards = some [] → Room k (A.deeper (envOfC qual (defScope st) s.heap.objs.size f cdv)) → PSs (cxOf CX0 P w K mg base N qual (defScope st) f cdv A outer s H E).nox (defBody st) (tS w K (some v0) td))
    (rd : ∀ d0 ds Q, ds.length + 1 = n → Fd d0 ds Q → td { nx := fun ρ => ∃ d0', ρ.getD 0 none = some d0' ∧ Q .non d0', rt := fun d ρ => ∃ d0', ρ.getD 0 none = some d0' ∧ Q d d0' } (startE N (d0 :: ds))) : FnG P w K mg base CX0 (k + 1) f fd ps (spI w K n Fd) := by
  refine okG0 F S (fun vs H Q E h => ?_) (fun cdv A outer s H vs Q E hg hr h => ?_)
  · obtain ⟨v0, vr, d0, ds, fp, Pd, rfl, hl, _, _, r, _⟩ := h
    rw [List.length_cons, r.length, hl, hn]
  · obtain ⟨v0, vr, d0, ds, fp, Pd, rfl, hl, r0, nd, r, hF, k⟩ := h
    refine ⟨_, body v0 cdv A outer s H E hg hr, startE N (d0 :: ds), fun i => if i = 0 then fp else [], start_fit _ (fun i d e => ?_) (by simp [r.length]) (fun i hi => ?_) (fun i => ?_) (fun i j a hi hj => ?_) (fun v z => by cases z; rfl), _, ⟨?_, ?_, ?_, ?_⟩, rd d0 ds Pd hl hF⟩
    · cases i with
      | zero => simp at e; subst e; exact ⟨v0, rfl, r0⟩
      | succ i =>
        obtain ⟨v, hv, rv⟩ := r.get (i := i) (by simpa using e)
        exact ⟨v, by simpa using hv, by simpa using rv⟩
    · rw [if_neg (by simp at hi; omega)]
    · show (if i = 0 then fp else []).Nodup
      split
      · exact nd
      · exact .nil
    · have hi' : a ∈ (if i = 0 then fp else []) := hi
      have hj' : a ∈ (if j = 0 then fp else []) := hj
      split at hi'
      · split at hj'
        · omega
        · cases hj'
      · cases hi'
    · intro σ' ρ' H' G' F' e' ⟨d0', g, h'⟩
      obtain ⟨v, hv, rv⟩ := F'.rep 0 d0' (getD_some g)
      have := F'.pin v0 rfl
      rw [hv] at this; cases this
      refine k _ _ .non H' [] (G' 0) h' (fun a o ho hn => e'.keep a o ho fun i z => ?_) e'.dom (fun a ha => ?_) (fun _ z => nomatch z) (fun _ z => nomatch z) .nil (F'.nod 0) rv .non
      · have z' : a ∈ (if i = 0 then fp else []) := z
        split at z'
        · exact hn z'
        · cases z'
      · rcases e'.new 0 a ha with ⟨j, z⟩ | z
        · have z' : a ∈ (if j = 0 then fp else []) := z
          split at z'
          · exact .inl z'
          · cases z'
        · exact .inr z
    · intro v d σ' ρ' H' G' gp F' e' nw ap ndg rg ⟨d0', g, h'⟩
      obtain ⟨u, hv, rv⟩ := F'.rep 0 d0' (getD_some g)
      have := F'.pin v0 rfl
      rw [hv] at this; cases this
      have cv : ∀ a, ((∃ j, a ∈ (fun i => if i = 0 then fp else [] : Fps) j) ∨ H a = none) → a ∈ fp ∨ H a = none := fun a z => by
        rcases z with ⟨j, z⟩ | z
        · have z' : a ∈ (if j = 0 then fp else []) := z
          split at z'
          · exact .inl z'
          · cases z'
        · exact .inr z
      refine k _ _ v H' gp (G' 0) h' (fun a o ho hn => e'.keep a o ho fun i z => ?_) e'.dom (fun a ha => cv a (e'.new 0 a ha)) (fun a ha => cv a (nw a ha)) (fun a ha => ap a ha 0) ndg (F'.nod 0) rv rg
      have z' : a ∈ (if i = 0 then fp else []) := z
      split at z'
      · exact hn z'
      · cases z'
    · exact fun _ _ _ _ _ _ z => z.elim
    · exact fun _ _ _ _ _ _ z => z.elim
end
end KW
/-! KWh: operations by values: numbers, texts, sequences; equality; what stands in the heap. -/
namespace KW
open PySem PySem.Spec L2
open PyProof.Rows hiding St

/-! ### trees as the library's data -/
namespace D
mutual
def py : D → PyData
  | .non => .none | .bl b => .bool b | .int i => .int i | .str s => .str s | .opq _ => .none
  | .tup ds => .tuple (pys ds)
  | .lst _ ds => .list (pys ds)
  | .dct _ kvs => .dict (pyk kvs)
def pys : List D → List PyData
  | [] => []
  | d :: ds => py d :: pys ds
def pyk : List (D × D) → List (PyData × PyData)
  | [] => []
  | (k, d) :: r => (py k, py d) :: pyk r
end
mutual
/-- nothing opaque -/
def plain : D → Bool
  | .non => true | .bl _ => true | .int _ => true | .str _ => true | .opq _ => false
  | .tup ds => plains ds
  | .lst _ ds => plains ds
  | .dct _ kvs => plaink kvs
def plains : List D → Bool
  | [] => true
  | d :: ds => plain d && plains ds
def plaink : List (D × D) → Bool
  | [] => true
  | (k, d) :: r => plain k && plain d && plaink r
end
theorem pys_eq : ∀ ds : List D, pys ds = ds.map py
  | [] => rfl
  | d :: ds => by rw [pys, pys_eq ds]; rfl
theorem plains_eq : ∀ ds : List D, plains ds = ds.all plain
  | [] => rfl
  | d :: ds => by rw [plains, plains_eq ds]; rfl
theorem pyk_eq : ∀ ds : List (D × D), pyk ds = ds.map fun p => (py p.1, py p.2)
  | [] => rfl
  | (k, d) :: ds => by rw [pyk, pyk_eq ds]; rfl
/-- comparable by == : no dict in it -/
def flatEq (d : D) : Bool := plain d && (py d).canLay0 && decide ((py d).depth ≤ 64)
def eqv (a b : D) : Bool := PyData.eqv a.py b.py
end D
section
variable {X : Cx} {pins : List (Addr × Obj)} {σ : St} {H : Hp} {s : Shared}
theorem relV_key_any {v : V} {u : Value} (r : RelV v u) : True := trivial
/-- a dict of H as it stands in the heap -/
theorem rd_at (I : Inv X pins σ H s) {a : Addr} {es : List (Int × V × V)} (h : H a = some (RD a es) ∨ ∃ o, H a = some (.frz o (RD a es))) : RDp a es s.heap := by
  rcases h with h | ⟨o, h⟩
  · exact (I.hok a _ h).1
  · exact (I.hok a _ h).2.1
mutual
theorem Rep.reads (I : Inv X pins σ H s) : ∀ (d : D) (fp : List Addr) (v : V) (u : Value), Rep X.w X.K H fp v d → d.plain = true → RelV v u → ∃ as, Reads s.heap u d.py as
  | .non, _, _, _, h, _, r => by cases h; cases r; exact ⟨_, .none⟩
  | .bl _, _, _, _, h, _, r => by cases h; cases r; exact ⟨_, .bool _⟩
  | .int _, _, _, _, h, _, r => by cases h; obtain ⟨t, rfl⟩ := r; exact ⟨_, .int _ _⟩
  | .str _, _, _, _, h, _, r => by cases h; obtain ⟨t, rfl⟩ := r; exact ⟨_, .str _ _⟩
  | .opq _, _, _, _, _, hp, _ => by simp [D.plain] at hp
  | .tup ds, _, _, _, h, hp, r => by
    cases h with
    | tup h1 h2 =>
      cases r
      obtain ⟨its, rv, ⟨o, ho, hc, n, hd⟩, hz⟩ := I.tuple h1
      obtain ⟨as, ra⟩ := Reps.reads I ds _ _ _ h2 (by rw [D.plain] at hp; exact hp) rv
      exact ⟨as, by rw [D.py]; exact .tuple ho hc hd (by simpa using ra)⟩
  | .lst _ ds, _, _, _, h, hp, r => by
    cases h with
    | lstF h1 h2 =>
      cases r
      obtain ⟨its, rv, ⟨o, n, ho, hc, _, hd⟩, hz⟩ := I.list h1.sq
      obtain ⟨as, ra⟩ := Reps.reads I ds _ _ _ h2 (by rw [D.plain] at hp; exact hp) rv
      exact ⟨_, by rw [D.py]; exact .list ho hc hd (by simpa using ra)⟩
    | lstO h1 h2 =>
      cases r
      obtain ⟨its, rv, ⟨o, n, ho, hc, _, hd⟩, hz⟩ := I.list (SqL.of h1)
      obtain ⟨as, ra⟩ := Reps.reads I ds _ _ _ h2 (by rw [D.plain] at hp; exact hp) rv
      exact ⟨_, by rw [D.py]; exact .list ho hc hd (by simpa using ra)⟩
  | .dct _ kvs, _, _, _, h, hp, r => by
    have go : ∀ {a es fp}, RDp a es s.heap → RepD X.w X.K H fp es kvs → ∃ as, Reads s.heap (.ref a) (D.py (.dct true kvs)) as := fun {a es fp} hr h2 => by
      obtain ⟨hs, hz, eo, ep, ⟨o, ho, ⟨hc, _⟩, hd⟩, hpd⟩ := hr
      obtain ⟨as, bs, ra, rb⟩ := RepD.reads I kvs _ _ _ h2 (by rw [D.plain] at hp; exact hp) hpd
      exact ⟨_, by rw [D.py]; exact .dict ho hc hd ra rb⟩
    cases h with
    | dctF h1 hn h2 => cases r; exact go (rd_at I (.inr ⟨_, h1⟩)) h2
    | dctO h1 hn h2 => cases r; exact go (rd_at I (.inl h1)) h2
theorem Reps.reads (I : Inv X pins σ H s) : ∀ (ds : List D) (fp : List Addr) (vs : List V) (us : List Value), Reps X.w X.K H fp vs ds → D.plains ds = true → Vals vs us → ∃ as, ReadsAll s.heap us (D.pys ds) as
  | [], _, _, _, h, _, r => by cases h; cases r; exact ⟨_, .nil⟩
  | d :: ds, _, _, _, h, hp, r => by
    cases h with
    | cons h1 h2 =>
      cases r with
      | cons r1 r2 =>
        rw [D.plains, Bool.and_eq_true] at hp
        obtain ⟨as, ra⟩ := Rep.reads I d _ _ _ h1 hp.1 r1
        obtain ⟨bs, rb⟩ := Reps.reads I ds _ _ _ h2 hp.2 r2
        exact ⟨_, .cons ra rb⟩
theorem RepD.reads (I : Inv X pins σ H s) : ∀ (kvs : List (D × D)) (fp : List Addr) (es : List (Int × V × V)) (eo : List DictEntry), RepD X.w X.K H fp es kvs → D.plaink kvs = true → Paired (fun (x : Int × V × V) (e : DictEntry) => e.hash = x.1 ∧ RelV x.2.1 e.key ∧ RelV x.2.2 e.val) es eo →
    ∃ as bs, ReadsAll s.heap (eo.map (·.key)) ((D.pyk kvs).map (·.1)) as ∧ ReadsAll s.heap (eo.map (·.val)) ((D.pyk kvs).map (·.2)) bs
  | [], _, _, _, h, _, r => by cases h; cases r; exact ⟨_, _, .nil, .nil⟩
  | (k, d) :: kvs, _, _, _, h, hp, r => by
    cases h with
    | cons hk _ _ h1 h2 =>
      cases r with
      | cons r1 r2 =>
        rw [D.plaink, Bool.and_eq_true, Bool.and_eq_true] at hp
        obtain ⟨as, ra⟩ := Rep.reads I k _ _ _ hk hp.1.1 r1.2.1
        obtain ⟨bs, rb⟩ := Rep.reads I d _ _ _ h1 hp.1.2 r1.2.2
        obtain ⟨cs, ds, rc, rd⟩ := RepD.reads I kvs _ _ _ h2 hp.2 r2
        exact ⟨_, _, .cons ra rc, .cons rb rd⟩
end
end

/-! ### numbers -/
def subD : D → D → Option D
  | .int a, .int b => some (.int (a - b))
  | _, _ => none
def mulD : D → D → Option D
  | .int a, .int b => if (-(2 ^ 64) < a ∧ a < 2 ^ 64) ∨ (-(2 ^ 64) < b ∧ b < 2 ^ 64) then some (.int (a * b)) else none
  | _, _ => none
def modD : D → D → Option D
  | .int a, .int b => if 0 < b then some (.int (a % b)) else none
  | _, _ => none
def fdivD : D → D → Option D
  | .int a, .int b => if 0 < b ∧ b < 1073741824 then some (.int (a / b)) else none
  | _, _ => none
def powD : D → D → Option D
  | .int a, .int b => if 0 ≤ b ∧ b ≤ 1000000 ∧ a.natAbs < 2 ^ 64 then some (.int (a ^ b.toNat)) else none
  | _, _ => none
def negD : D → Option D
  | .int a => some (.int (-a))
  | _ => none
def addD : D → D → Option D
  | .int a, .int b => some (.int (a + b))
  | .str a, .str b => if a.length + b.length ≤ sizeLine then some (.str (a ++ b)) else none
  | .tup a, .tup b => if a.length + b.length ≤ sizeLine ∧ D.isFzs a = true ∧ D.isFzs b = true then some (.tup (a ++ b)) else none
  | .lst _ a, .lst _ b => if a.length + b.length ≤ sizeLine ∧ D.isFzs a = true ∧ D.isFzs b = true then some (.lst true (a ++ b)) else none
  | _, _ => none
section
variable {X : Cx}
/-- a result that makes nothing -/
theorem res_now {w : World} {K : PySem.W.Frag} {H : Hp} {d : D} {Q : VK} (k : Res w K H d Q) {v : V} (r : Rep w K H [] v d) : Q v H := k v H [] (fun _ _ z => z) (fun _ z => nomatch z) .nil r
/-- an operation of two ints, by its rule -/
theorem od_ints {f : Value → Value → Sem Value} {r : R2} {g : D → D → Option D} (ho : OpR X f r) (hg : ∀ a b d, g a b = some d → ∃ i j c, a = .int i ∧ b = .int j ∧ d = c ∧ ∀ H Q, (∀ v, Rep X.w X.K H [] v c → Q v H) → r (.int i) (.int j) H Q) : OpR X f (rD X.w X.K g) := by
  intro pins s σ H x y v u Q I rx ry ⟨fx, fy, dx, dy, d, Rx, Ry, e, k⟩
  obtain ⟨i, j, c, rfl, rfl, rfl, h⟩ := hg dx dy d e
  cases Rx; cases Ry
  exact ho pins s σ H _ _ v u Q I rx ry (h H Q fun v r => res_now k r)
theorem od_sub : OpR X (binaryOp .Sub) (rD X.w X.K subD) := od_ints op_sub fun a b d e => by
  unfold subD at e
  split at e
  · cases e; exact ⟨_, _, _, rfl, rfl, rfl, fun H Q h => ⟨_, _, rfl, rfl, h _ (.int _)⟩⟩
  · cases e
theorem od_mul : OpR X (binaryOp .Mult) (rD X.w X.K mulD) := od_ints op_mul fun a b d e => by
  unfold mulD at e
  split at e
  · split at e
    · cases e; exact ⟨_, _, _, rfl, rfl, rfl, fun H Q h => ⟨_, _, rfl, rfl, by assumption, h _ (.int _)⟩⟩
    · cases e
  · cases e
theorem od_mod : OpR X (binaryOp .Mod) (rD X.w X.K modD) := od_ints op_mod fun a b d e => by
  unfold modD at e
  split at e
  · split at e
    · cases e; exact ⟨_, _, _, rfl, rfl, rfl, fun H Q h => ⟨_, _, rfl, rfl, by assumption, h _ (.int _)⟩⟩
    · cases e
  · cases e
theorem od_fdiv : OpR X (binaryOp .FloorDiv) (rD X.w X.K fdivD) := od_ints op_fdiv fun a b d e => by
  unfold fdivD at e
  split at e
  · split at e
    · cases e; exact ⟨_, _, _, rfl, rfl, rfl, fun H Q h => ⟨_, _, rfl, rfl, by assumption, h _ (.int _)⟩⟩
    · cases e
  · cases e
theorem od_pow : OpR X (binaryOp .Pow) (rD X.w X.K powD) := od_ints op_pow fun a b d e => by
  unfold powD at e
  split at e
  · split at e
    · cases e; exact ⟨_, _, _, rfl, rfl, rfl, fun H Q h => ⟨_, _, rfl, rfl, by assumption, h _ (.int _)⟩⟩
    · cases e
  · cases e
theorem ud_neg : UnR X (unaryOp .USub) (uD X.w X.K negD) := by
  intro pins s σ H x v Q I rx ⟨fx, dx, d, Rx, e, k⟩
  unfold negD at e
  split at e
  · cases e
    cases Rx
    exact un_neg pins s σ H _ v Q I rx ⟨_, rfl, res_now k (.int _)⟩
  · cases e
theorem Reps.fz0 {w : World} {K : PySem.W.Frag} {H : Hp} {fp : List Addr} {vs : List V} {ds : List D} (r : Reps w K H fp vs ds) (h : D.isFzs ds = true) : Reps w K H [] vs ds := by
  have := r.fp_nil ds _ _ h
  subst this
  exact r
theorem Rep.fz0 {w : World} {K : PySem.W.Frag} {H : Hp} {fp : List Addr} {v : V} {d : D} (r : Rep w K H fp v d) (h : d.isFz = true) : Rep w K H [] v d := by
  have := r.fp_nil d _ _ h
  subst this
  exact r
theorem Reps.grow {w : World} {K : PySem.W.Frag} {H H' : Hp} {fp : List Addr} {vs : List V} {ds : List D} (r : Reps w K H fp vs ds) (s : Same H H') : Reps w K H' fp vs ds := r.mono (fun a o h _ => s a o h) ds _ _ fun a _ o h => s a o h
theorem Rep.grow {w : World} {K : PySem.W.Frag} {H H' : Hp} {fp : List Addr} {v : V} {d : D} (r : Rep w K H fp v d) (s : Same H H') : Rep w K H' fp v d := r.mono (fun a o h _ => s a o h) d _ _ fun a _ o h => s a o h
/-- a new tuple, a new list -/
theorem res_tup {w : World} {K : PySem.W.Frag} {H : Hp} {ds : List D} {vs : List V} {Q : VK} {p : Addr} (k : Res w K H (.tup ds) Q) (r : Reps w K H [] vs ds) (hp : H p = none) : Q (.ref p) (upd H p (.tup vs)) := by
  have s := same_upd (o := .tup vs) hp
  exact k (.ref p) _ [] s (fun _ z => nomatch z) .nil (.tup (.inl (.inl upd_same)) (r.grow s))
theorem res_lst {w : World} {K : PySem.W.Frag} {H : Hp} {ds : List D} {vs : List V} {Q : VK} {p : Addr} (k : Res w K H (.lst true ds) Q) (r : Reps w K H [] vs ds) (hp : H p = none) : Q (.ref p) (upd H p (.lst vs)) := by
  have s := same_upd (o := .lst vs) hp
  exact k (.ref p) _ [p] s (fun a z => by rw [List.mem_singleton.mp z]; exact hp) (by simp) (.lstO upd_same (r.grow s))
theorem Reps.app {w : World} {K : PySem.W.Frag} {H : Hp} {us vs : List V} {cs ds : List D} (a : Reps w K H [] us cs) (b : Reps w K H [] vs ds) : Reps w K H [] (us ++ vs) (cs ++ ds) := Reps.append (fp := []) (gp := []) a b
/-- the list that a list's tree stands for -/
theorem Rep.sqL {w : World} {K : PySem.W.Frag} {H : Hp} {fp : List Addr} {v : V} {o : Bool} {ds : List D} (r : Rep w K H fp v (.lst o ds)) : ∃ a xs gp, v = .ref a ∧ SqL K H a xs ∧ Reps w K H gp xs ds := by
  cases r with
  | lstF h1 h2 => exact ⟨_, _, _, rfl, h1.sq, h2⟩
  | lstO h1 h2 => exact ⟨_, _, _, rfl, SqL.of h1, h2⟩
theorem Rep.sqT {w : World} {K : PySem.W.Frag} {H : Hp} {fp : List Addr} {v : V} {ds : List D} (r : Rep w K H fp v (.tup ds)) : ∃ a xs, v = .ref a ∧ SqT K H a xs ∧ Reps w K H fp xs ds := by
  cases r with
  | tup h1 h2 => exact ⟨_, _, rfl, h1, h2⟩
/-- two lists put together, whatever they are -/
theorem op_catL : OpR X (binaryOp .Add) (fun x y H Q => ∃ a b xs ys, x = .ref a ∧ y = .ref b ∧ SqL X.K H a xs ∧ SqL X.K H b ys ∧ xs.length + ys.length ≤ sizeLine ∧ ∀ p, H p = none → Q (.ref p) (upd H p (.lst (xs ++ ys)))) := by
  intro pins s σ H x y v u Q I rx ry ⟨a, b, xs, ys, ex, ey, hx, hy, hz, q⟩
  subst ex ey
  cases rx; cases ry
  obtain ⟨its, r1, pl1, _⟩ := I.list hx
  obtain ⟨its2, r2, pl2, _⟩ := I.list hy
  obtain ⟨⟨c1, d1, t1, sl1⟩, ho1, hc1, n1, hd1⟩ := pl1.isList
  obtain ⟨⟨c2, d2, t2, sl2⟩, ho2, hc2, n2, hd2⟩ := pl2.isList
  simp only at hc1 hd1 hc2 hd2
  subst hc1 hd1 hc2 hd2
  refine concat_meets ⟨_, ho1, rfl⟩ ⟨_, ho2, rfl⟩ noFill_list_add seq_list_add PySem.F.slot_list_add PySem.F.entry_list_add (PySem.F.args_list_add_2 _ _)
    (list_addW a b its.toArray its2.toArray n1 n2 d1 d2 sl1 sl2 (by have := r1.length; have := r2.length; simp only [List.size_toArray]; omega)) ⟨ho1, ho2, ?_⟩
  have ea : its.toArray ++ its2.toArray = (its ++ its2).toArray := by simp
  rw [ea]
  exact ⟨.ref _, _, I.lnew (t' := s.toks) (r1.append r2) (by rw [List.length_append]; exact hz), rfl, q _ I.fresh⟩
theorem od_add : OpR X (binaryOp .Add) (rD X.w X.K addD) := by
  intro pins s σ H x y v u Q I rx ry ⟨fx, fy, dx, dy, d, Rx, Ry, e, k⟩
  unfold addD at e
  split at e
  · cases e; cases Rx; cases Ry
    exact op_add pins s σ H _ _ v u Q I rx ry ⟨_, _, rfl, rfl, res_now k (.int _)⟩
  · split at e
    · cases e; cases Rx; cases Ry
      exact op_add_str pins s σ H _ _ v u Q I rx ry ⟨_, _, rfl, rfl, by assumption, res_now k (.str _)⟩
    · cases e
  · split at e
    · rename_i hz
      cases e
      obtain ⟨a, xs, ex, hx, r1⟩ := Rx.sqT
      obtain ⟨b, ys, ey, hy, r2⟩ := Ry.sqT
      have r1 := r1.fz0 hz.2.1
      have r2 := r2.fz0 hz.2.2
      refine op_catA pins s σ H _ _ v u Q I rx ry ⟨a, b, xs, ys, ex, ey, hx, hy, by rw [r1.length, r2.length]; exact hz.1, fun e => ?_, fun _ e => ?_, fun _ _ p hp => res_tup k (r1.app r2) hp⟩
      · subst e
        have e2 := List.length_eq_zero_iff.mp r1.length.symm
        rw [e2, List.nil_append] at k
        exact res_now k (.tup hy r2)
      · subst e
        have e2 := List.length_eq_zero_iff.mp r2.length.symm
        rw [e2, List.append_nil] at k
        exact res_now k (.tup hx r1)
    · cases e
  · split at e
    · rename_i hz
      cases e
      obtain ⟨a, xs, g1, ex, hx, r1⟩ := Rx.sqL
      obtain ⟨b, ys, g2, ey, hy, r2⟩ := Ry.sqL
      have r1 := r1.fz0 hz.2.1
      have r2 := r2.fz0 hz.2.2
      exact op_catL pins s σ H _ _ v u Q I rx ry ⟨a, b, xs, ys, ex, ey, hx, hy, by rw [r1.length, r2.length]; exact hz.1, fun p hp => res_lst k (r1.app r2) hp⟩
    · cases e
  · cases e
end
end KW
/-! KWk: dicts by keys of any kind. -/
namespace KW
open PySem PySem.Spec L2
open PyProof.Rows hiding St

/-! ### a search among keys -/
def atK (ks : List NestedKey) (k : NestedKey) : Option Nat := ks.findIdx? fun x => decide (x = k)
theorem atK_some {ks : List NestedKey} {k : NestedKey} {j : Nat} (h : atK ks k = some j) : ks[j]? = some k := by
  unfold atK at h
  obtain ⟨h1, h2, _⟩ := List.findIdx?_eq_some_iff_getElem.mp h
  rw [List.getElem?_eq_getElem h1, of_decide_eq_true h2]
theorem atK_none {ks : List NestedKey} {k : NestedKey} (h : atK ks k = none) (j : Nat) : ks[j]? ≠ some k := fun e => by
  unfold atK at h
  have := List.findIdx?_eq_none_iff.mp h k (List.mem_of_getElem? e)
  simp at this
theorem atK_of {ks : List NestedKey} (hn : ks.Nodup) {k : NestedKey} {j : Nat} (h : ks[j]? = some k) : atK ks k = some j := by
  cases q : atK ks k with
  | none => exact absurd h (atK_none q j)
  | some i =>
    have hi := atK_some q
    have := (List.getElem?_inj (List.getElem?_eq_some_iff.mp hi).1 hn).mp (hi.trans h.symm)
    rw [this]
/-- the keys ks stand in the entries es -/
def KeysAt (w : World) (h : Heap) (es : List DictEntry) (ks : List NestedKey) : Prop := Paired (fun k e => e.hash = k.hash w ∧ NestedIs h k e.key ∧ k.depth ≤ 8) ks es
theorem KeysAt.get {w : World} {h : Heap} {es : Array DictEntry} {ks : List NestedKey} (r : KeysAt w h es.toList ks) {i : Nat} (hi : i < es.size) : ∃ k e, ks[i]? = some k ∧ es[i]? = some e ∧ e.hash = k.hash w ∧ NestedIs h k e.key ∧ k.depth ≤ 8 := by
  have hl : ks.length = es.size := by rw [paired_length r]; simp
  have hk : ks[i]? = some (ks[i]'(by omega)) := List.getElem?_eq_getElem _
  obtain ⟨e, he, r1⟩ := paired_get r hk
  exact ⟨_, e, hk, by simpa using he, r1⟩
section
variable {prog : Program} {w : World} {A : Around} {E : Value → Shared → Prop} {s : Shared} {d : Addr} {o : Obj} {es : Array DictEntry} {ep : Nat} {ks : List NestedKey} {k : NestedKey} {v : Value} {Q : Option Nat → Shared → Prop}
theorem places_mem {h : Int} {i : Nat} : i ∈ placesWithHash es.size (fun i => es[i]?.map (·.hash)) h ↔ i < es.size ∧ (es[i]?.map (·.hash)) = some h := by
  unfold placesWithHash
  rw [List.mem_filter, List.mem_range, beq_iff_eq]
theorem places_nodup {h : Int} : (placesWithHash es.size (fun i => es[i]?.map (·.hash)) h).Nodup := List.nodup_range.sublist List.filter_sublist
theorem find_isStr {y : Str} : ∀ {ks : List NestedKey} {l : List DictEntry}, Paired (fun k e => e.hash = k.hash w ∧ NestedIs s.heap k e.key ∧ k.depth ≤ 8) ks l → (l.all fun e => isExactStrKey e.key) = true → l.findIdx? (·.key.isStr y) = atK ks (.text y)
  | _, _, .nil, _ => rfl
  | k :: ks, e :: l, .cons r t, ha => by
    rw [List.all_cons, Bool.and_eq_true] at ha
    have ih := find_isStr (y := y) t ha.2
    unfold atK at ih ⊢
    rw [List.findIdx?_cons, List.findIdx?_cons, ih]
    have h1 : e.key.isStr y = decide (k = .text y) := by
      obtain ⟨_, r2, _⟩ := r
      obtain ⟨eh, ek, ev⟩ := e
      simp only at r2 ha ⊢
      cases r2 with
      | text x t =>
        show (x == y) = _
        by_cases hx : x = y
        · subst hx; simp
        · simp [hx]
      | none => exact absurd ha.1 (by decide)
      | bool _ => exact absurd ha.1 (by simp [isExactStrKey])
      | int _ _ => exact absurd ha.1 (by simp [isExactStrKey])
      | tup _ _ _ _ => exact absurd ha.1 (by simp [isExactStrKey])
    rw [h1]
theorem nk_eq {x y : NestedKey} : NestedKey.beq x y = decide (x = y) := (NestedKey.decide_eq x y).symm
/-- one stored key is compared -/
theorem cmp_at (r : KeysAt w s.heap es.toList ks) (hu : A.units + 8 < cLine) (hv : NestedIs s.heap k v) (hk : k.depth ≤ 8) {i : Nat} {e : DictEntry} {x : NestedKey} (he : es[i]? = some e) (hx : ks[i]? = some x) {Q : Bool → Shared → Prop} (h : Q (decide (x = k)) s) : wpAny (model prog w) A (eqBool e.key v) Q E s := by
  obtain ⟨e', he', _, r1, r2⟩ := paired_get r hx
  have : es[i]? = some e' := by simpa using he'
  rw [he] at this; cases this
  refine eqAt_key x k A s e.key v r1 hv (by have := Nat.min_le_left x.depth k.depth; omega) prog w E Q ?_
  rw [nk_eq]; exact h
theorem walkPlain (r : KeysAt w s.heap es.toList ks) (hn : ks.Nodup) (hu : A.units + 8 < cLine) (hv : NestedIs s.heap k v) (hk : k.depth ≤ 8) (ho : s.heap.get? d = some o) (hd : o.data = .dict es ep) (h : Q (atK ks k) s) :
    wpAny (model prog w) A (dictWalkPlain d v (k.hash w) es (placesWithHash es.size (fun i => es[i]?.map (·.hash)) (k.hash w))) Q E s := by
  unfold dictWalkPlain
  refine wpAny_bind (wpAny_forIn_list _ (fun rest r' s' => s' = s ∧ r'.1 = none ∧ (∀ i ∈ rest, i < es.size) ∧ ∀ j, atK ks k = some j → j ∈ rest) _ ?_ ?_ _ _ ⟨rfl, rfl, fun i hi => (places_mem.mp hi).1, fun j hj => places_mem.mpr ?_⟩)
  · rintro i rest ⟨r1, r2⟩ s' ⟨rfl, hr, hlt, hin⟩
    simp only at hr
    subst hr
    obtain ⟨x, e, hx, he, h1, h2, h3⟩ := r.get (hlt i List.mem_cons_self)
    have go : decide (x = k) = false → ∀ j, atK ks k = some j → j ∈ rest := fun hne j hj => by
      rcases List.mem_cons.mp (hin j hj) with rfl | z
      · have := atK_some hj
        rw [hx] at this; cases this
        simp at hne
      · exact z
    rw [he]
    dsimp only
    by_cases hh : (e.hash == k.hash w) = true
    · rw [if_pos hh]
      refine wpAny_bind (wpAny_dictEpoch ho hd (wpAny_bind (cmp_at r hu hv hk he hx (wpAny_bind (wpAny_dictEpoch ho hd ?_)))))
      rw [if_neg (by simp)]
      cases hc : decide (x = k) with
      | true =>
        have hxk := of_decide_eq_true hc
        subst hxk
        rw [atK_of hn hx] at h
        first | rw [if_pos rfl] | skip
        refine wpAny_bind (wpAny_rule ?_)
        exact wpAny_pure (wpAny_pure h)
      | false =>
        rw [if_neg (by decide)]
        refine wpAny_bind (wpAny_rule ?_)
        exact wpAny_pure ⟨rfl, rfl, fun i hi => hlt i (List.mem_cons_of_mem _ hi), go hc⟩
    · rw [if_neg hh]
      refine wpAny_pure ⟨rfl, rfl, fun i hi => hlt i (List.mem_cons_of_mem _ hi), go (decide_eq_false fun e2 => hh ?_)⟩
      rw [h1, e2]; exact beq_self_eq_true _
  · rintro ⟨r1, r2⟩ s' ⟨rfl, hr, _, hin⟩
    simp only at hr
    subst hr
    cases q : atK ks k with
    | none => rw [q] at h; exact wpAny_pure h
    | some j => exact absurd (hin j q) List.not_mem_nil
  · have hj' := atK_some hj
    have hl : ks.length = es.size := by rw [paired_length r]; simp
    have hlt : j < es.size := by have := (List.getElem?_eq_some_iff.mp hj').1; omega
    obtain ⟨x, e, hx, he, h1, h2, h3⟩ := r.get hlt
    rw [hj'] at hx; cases hx
    exact ⟨hlt, by rw [he]; exact congrArg some h1⟩
theorem stored_quiet (r : KeysAt w s.heap es.toList ks) (hv : NestedIs s.heap k v) (hk : k.depth ≤ 8) {l : List Nat} {Q : Bool → Shared → Prop} (h : Q false s) : wpAny (model prog w) A (tableMayTell v (l.filterMap fun i => es[i]?.map (·.key))) Q E s := by
  unfold tableMayTell
  split
  · exact wpAny_pure h
  · refine wpAny_bind (quiet_key k v 8 s hv hk A E _ ?_)
    rw [if_neg (by decide)]
    refine wpAny_bind (wpAny_forIn_list _ (fun rest r' s' => s' = s ∧ r' = (none, ()) ∧ ∀ u ∈ rest, ∃ k', NestedIs s.heap k' u ∧ k'.depth ≤ 8) _ ?_ ?_ _ _ ⟨rfl, rfl, fun u hu => ?_⟩)
    · rintro u rest r' s' ⟨rfl, rfl, hr⟩
      obtain ⟨k', h1, h2⟩ := hr u List.mem_cons_self
      refine wpAny_bind (quiet_key k' u 8 s' h1 h2 A E _ ?_)
      rw [if_neg (by decide)]
      exact wpAny_pure ⟨rfl, rfl, fun u hu => hr u (List.mem_cons_of_mem _ hu)⟩
    · rintro r' s' ⟨rfl, rfl, _⟩
      exact wpAny_pure h
    · obtain ⟨i, _, hi⟩ := List.mem_filterMap.mp hu
      cases q : es[i]? with
      | none => rw [q] at hi; cases hi
      | some e =>
        rw [q] at hi
        have hi : e.key = u := Option.some.inj hi
        subst hi
        obtain ⟨x, e', hx, he, h1, h2, h3⟩ := r.get (Array.getElem?_eq_some_iff.mp q).1
        rw [q] at he; cases he
        exact ⟨x, h2, h3⟩
theorem ite_c {α : Type} {M : Model} {A : Around} {c : Prop} [Decidable c] {a b : Sem α} {Q : α → Shared → Prop} {E : Value → Shared → Prop} {s : Shared} (h1 : c → wpAny M A a Q E s) (h2 : ¬ c → wpAny M A b Q E s) : wpAny M A (if c then a else b) Q E s := by
  by_cases h : c
  · rw [if_pos h]; exact h1 h
  · rw [if_neg h]; exact h2 h
/-- a search for a key -/
theorem find_key (r : KeysAt w s.heap es.toList ks) (hn : ks.Nodup) (hu : A.units + 8 < cLine) (hv : NestedIs s.heap k v) (hk : k.depth ≤ 8) (ho : s.heap.get? d = some o) (hd : o.data = .dict es ep) (h : Q (atK ks k) s) :
    wpAny (model prog w) A (dictFind d v (k.hash w)) Q E s := by
  have same : ∀ (i : Nat) (e : DictEntry), es[i]? = some e → e.key = v → e.hash = k.hash w := fun i e he hev => by
    obtain ⟨x, e', hx, he', h1, h2, h3⟩ := r.get (Array.getElem?_eq_some_iff.mp he).1
    rw [he] at he'; cases he'
    rw [hev] at h2
    rw [h1, NestedIs.inj _ _ _ h2 hv]
  unfold dictFind
  try with_reducible refine wpAny_holding ?_
  refine wpAny_bind (wpAny_dictEntries ho hd ?_)
  have plain : wpAny (model prog w) A (dictWalkPlain d v (k.hash w) es (placesWithHash es.size (fun i => es[i]?.map (·.hash)) (k.hash w))) Q E s := walkPlain r hn hu hv hk ho hd h
  have hany : ¬ (es.any fun e => e.key == v && e.hash != k.hash w) = true := by
    rw [Array.any_eq_true]
    rintro ⟨i, hi, hc⟩
    rw [Bool.and_eq_true, beq_iff_eq, bne_iff_ne] at hc
    exact hc.2 (same i _ (Array.getElem?_eq_getElem hi) hc.1)
  have hv0 := hv
  have mem : ∀ {j : Nat}, atK ks k = some j → j ∈ placesWithHash es.size (fun i => es[i]?.map (·.hash)) (k.hash w) := fun {j} hj => by
    have hj' := atK_some hj
    have hl : ks.length = es.size := by rw [paired_length r]; simp
    have hlt : j < es.size := by have := (List.getElem?_eq_some_iff.mp hj').1; omega
    obtain ⟨x, e, hx, he, h1, h2, h3⟩ := r.get hlt
    rw [hj'] at hx; cases hx
    exact places_mem.mpr ⟨hlt, by rw [he]; exact congrArg some h1⟩
  have found : ∀ (y : Str) (t : Tok), v = .str y t → k = .text y → es.all (fun e => isExactStrKey e.key) = true → wpAny (model prog w) A (foundByValue d v es y) Q E s := fun y t ev ek ha => by
    have hf : es.findIdx? (fun e => e.key.isStr y) = atK ks k := by
      rw [ek, ← find_isStr (w := w) (s := s) r (by rw [← Array.all_toList] at ha; exact ha)]
      rw [← List.findIdx?_toArray, Array.toArray_toList]
    unfold foundByValue
    rw [hf]
    cases q : atK ks k with
    | none => rw [q] at h; exact wpAny_pure h
    | some i =>
      rw [q] at h
      have hi := atK_some q
      have hl : ks.length = es.size := by rw [paired_length r]; simp
      obtain ⟨x, e, hx, he, h1, h2, h3⟩ := r.get (i := i) (by have := (List.getElem?_eq_some_iff.mp hi).1; omega)
      dsimp only
      rw [he]
      dsimp only
      refine wpAny_bind (wpAny_dictEpoch ho hd (wpAny_bind (cmp_at r hu hv0 hk he hx (wpAny_bind (wpAny_dictEpoch ho hd ?_)))))
      rw [if_neg (by simp)]
      rw [hi] at hx; cases hx
      rw [if_pos (by simp)]
      exact wpAny_bind (wpAny_rule (wpAny_pure h))
  have turn : ∀ {i : Nat} {x : NestedKey}, ks[i]? = some x → decide (x = k) = true → atK ks k = some i := fun {i x} hx hc => by
    have := of_decide_eq_true hc
    subst this
    exact atK_of hn hx
  have nturn : ∀ {i : Nat} {x : NestedKey} {rest : List Nat}, ks[i]? = some x → decide (x = k) = false → ∀ {j : Nat}, atK ks k = some j → j ∈ i :: rest → j ∈ rest := fun {i x rest} hx hne {j} hj hm => by
    rcases List.mem_cons.mp hm with rfl | z
    · have := atK_some hj
      rw [hx] at this; cases this
      simp at hne
    · exact z
  have shape : v = .none ∨ (∃ b, v = .bool b) ∨ (∃ i t, v = .int i t) ∨ (∃ a, v = .ref a) ∨ ∃ y t, v = .str y t ∧ k = .text y := by
    cases hv with
    | none => exact .inl rfl
    | bool e => exact .inr (.inl ⟨_, rfl⟩)
    | int x t => exact .inr (.inr (.inl ⟨_, _, rfl⟩))
    | tup _ _ _ _ => exact .inr (.inr (.inr (.inl ⟨_, rfl⟩)))
    | text x t => exact .inr (.inr (.inr (.inr ⟨_, _, rfl, rfl⟩)))
  rcases shape with rfl | ⟨b, rfl⟩ | ⟨i, t, rfl⟩ | ⟨a, rfl⟩ | ⟨y, t, rfl, ek⟩
  rotate_left 4
  refine ite_c (fun ha => found _ _ rfl ek ha) fun ha => ?_
  all_goals refine ite_c (fun _ => plain) fun _ => ?_
  rotate_left 4
  refine ite_c (fun z => absurd z hany) fun _ => ?_
  all_goals
    refine ite_c (fun _ => wpAny_bind (wpAny_pure ?_)) (fun _ => wpAny_bind (stored_quiet r hv0 hk ?_))
    all_goals refine ite_c (fun z => absurd z (by simp)) fun _ => ?_
    all_goals
      refine wpAny_bind (wpAny_forIn_list _ (fun rest r' s' => s' = s ∧ r'.1 = none ∧ rest.Nodup ∧ (∀ i ∈ rest, i < es.size) ∧ ((r'.2 = none ∧ ∀ j, atK ks k = some j → j ∈ rest) ∨ ∃ j, r'.2 = some j ∧ atK ks k = some j ∧ j ∉ rest)) _ ?_ ?_ _ _ ⟨rfl, rfl, places_nodup, fun i hi => (places_mem.mp hi).1, .inl ⟨rfl, fun j hj => mem hj⟩⟩)
      · rintro i rest ⟨r1, r2⟩ s' ⟨rfl, hr, hnd, hlt, hh⟩
        simp only at hr
        subst hr
        obtain ⟨x, e, hx, he, h1, h2, h3⟩ := r.get (hlt i List.mem_cons_self)
        have hnd2 := (List.nodup_cons.mp hnd)
        have hlt2 : ∀ i ∈ rest, i < es.size := fun i hi => hlt i (List.mem_cons_of_mem _ hi)
        have stay : decide (x = k) = false → ((r2 = none ∧ ∀ j, atK ks k = some j → j ∈ rest) ∨ ∃ j, r2 = some j ∧ atK ks k = some j ∧ j ∉ rest) := fun hne => by
          rcases hh with ⟨a1, a2⟩ | ⟨j, a1, a2, a3⟩
          · exact .inl ⟨a1, fun j hj => nturn hx hne hj (a2 j hj)⟩
          · exact .inr ⟨j, a1, a2, fun z => a3 (List.mem_cons_of_mem _ z)⟩
        rw [he]
        dsimp only
        by_cases hb : (e.hash == NestedKey.hash w k) = true
        · rw [if_pos hb]
          refine wpAny_bind (wpAny_dictEpoch ho hd (wpAny_bind (cmp_at r hu hv0 hk he hx (wpAny_bind (wpAny_dictEpoch ho hd ?_)))))
          rw [if_neg (by simp)]
          cases hc : decide (x = k) with
          | true =>
            have hj := turn hx hc
            have hn2 : r2 = none := by
              rcases hh with ⟨a1, _⟩ | ⟨j, a1, a2, a3⟩
              · exact a1
              · rw [hj] at a2; cases a2
                exact absurd List.mem_cons_self a3
            subst hn2
            rw [if_pos rfl]
            rw [if_neg (by simp)]
            refine wpAny_bind (wpAny_rule ?_)
            split
            · rw [hj] at h
              exact wpAny_pure (wpAny_pure h)
            · exact wpAny_pure ⟨rfl, rfl, hnd2.2, hlt2, .inr ⟨i, rfl, hj, hnd2.1⟩⟩
          | false =>
            rw [if_neg (by decide)]
            refine wpAny_bind (wpAny_rule ?_)
            rw [if_neg (by simp)]
            exact wpAny_pure ⟨rfl, rfl, hnd2.2, hlt2, stay hc⟩
        · rw [if_neg hb]
          refine wpAny_pure ⟨rfl, rfl, hnd2.2, hlt2, stay (decide_eq_false fun e2 => hb ?_)⟩
          rw [h1, e2]; exact beq_self_eq_true _
      · rintro ⟨r1, r2⟩ s' ⟨rfl, hr, _, _, hh⟩
        simp only at hr
        subst hr
        rcases hh with ⟨h1, h2⟩ | ⟨j, h1, h2, _⟩
        · simp only at h1
          subst h1
          have e0 : atK ks k = none := by
            cases q : atK ks k with
            | none => rfl
            | some j => exact absurd (h2 j q) List.not_mem_nil
          rw [e0] at h
          exact wpAny_pure h
        · simp only at h1
          subst h1
          rw [h2] at h
          exact wpAny_pure h
end

/-! ### get, set -/
section
variable {prog : Program} {w : World} {A : Around} {E : Value → Shared → Prop} {s : Shared} {d : Addr} {es : Array DictEntry} {ep : Nat} {ks : List NestedKey} {k : NestedKey} {u : Value}
theorem dictGet_key {Q : Option Value → Shared → Prop} (hr : s.heap.DictRaw d es ep) (r : KeysAt w s.heap es.toList ks) (hn : ks.Nodup) (hu : A.units + 8 < cLine) (hv : NestedIs s.heap k u) (hk : k.depth ≤ 8) (h : ∀ t, Q ((atK ks k).bind fun i => es[i]?.map (·.val)) { s with toks := t }) :
    wpAny (model prog w) A (dictGet d u) Q E s := by
  obtain ⟨o, ho, _, hd⟩ := hr
  unfold dictGet
  try with_reducible refine wpAny_holding ?_
  refine wpAny_bind (pyHash_key k u A s _ hv (by omega) (wpAny_bind (find_key (s := { s with toks := s.toks + k.draws }) r hn hu hv hk ho hd ?_)))
  have h1 := h (s.toks + k.draws)
  cases q : atK ks k with
  | none => rw [q] at h1; exact wpAny_pure h1
  | some i =>
    rw [q] at h1
    exact wpAny_bind (wpAny_dictEntries (s := { s with toks := s.toks + k.draws }) ho hd (wpAny_pure h1))
/-- the entries behind a store -/
def putE (es : List DictEntry) (i? : Option Nat) (e : DictEntry) : List DictEntry := match i? with
  | some i => es.modify i fun x => { x with val := e.val }
  | none => es ++ [e]
theorem dictSet_key {z : Value} {Q : Unit → Shared → Prop} (hr : s.heap.DictRaw d es ep) (r : KeysAt w s.heap es.toList ks) (hn : ks.Nodup) (hu : A.units + 8 < cLine) (hv : NestedIs s.heap k u) (hk : k.depth ≤ 8) (hsz : es.size ≤ sizeLine)
    (h : ∀ h' es' ep' t, h'.DictRaw d es' ep' → Heap.SameBut d s.heap h' → es'.toList = putE es.toList (atK ks k) ⟨k.hash w, u, z⟩ → Q () { s with heap := h', toks := t }) : wpAny (model prog w) A (dictSet d u z) Q E s := by
  obtain ⟨o, ho, hc, hd⟩ := hr
  unfold dictSet
  try with_reducible refine wpAny_holding ?_
  refine wpAny_bind (pyHash_key k u A s _ hv (by omega) ?_)
  unfold dictSetHashed
  try with_reducible refine wpAny_holding ?_
  refine wpAny_bind (find_key (s := { s with toks := s.toks + k.draws }) r hn hu hv hk ho hd ?_)
  cases q : atK ks k with
  | none =>
    rw [q] at h
    refine wpAny_bind (wpAny_rule (wpAny_updateDictKeys (hz := hsz) (s := { s with toks := s.toks + k.draws }) ho hd (h _ _ _ _ ⟨_, Heap.get?_update_self _ ho (Obj.isFreed_of_dict (Obj.data_mapDictKeys hd _)), hc.mapDictKeys _, Obj.data_mapDictKeys hd _⟩ (Heap.SameBut.update ..) ?_)))
    simp [putE]
  | some i =>
    rw [q] at h
    refine wpAny_bind (wpAny_rule (wpAny_bind (wpAny_updateDict (s := { s with toks := s.toks + k.draws }) ho hd (wpAny_point (h _ _ _ _ ⟨_, Heap.get?_update_self _ ho (Obj.isFreed_of_dict (Obj.data_mapDict hd _)), hc.mapDict _, Obj.data_mapDict hd _⟩ (Heap.SameBut.update ..) ?_)))))
    simp [putE]
theorem contains_key {Q : Bool → Shared → Prop} (lo : (d == sysModules) = false) (hr : s.heap.DictRaw d es ep) (r : KeysAt w s.heap es.toList ks) (hn : ks.Nodup) (hu : A.units + 9 < cLine) (hv : NestedIs s.heap k u) (hk : k.depth ≤ 8) (h : ∀ t, Q (atK ks k).isSome { s with toks := t }) :
    wpAny (model prog w) A (contains (.ref d) u) Q E s := by
  refine wpAny_contains_slot hr.typeIs F.slot_dict_contains ?_
  refine call_meetsIn F.slot_dict_contains hr.typeIs F.entry_dict_contains (F.args_dict_contains_2 _ _) (S := fun A' R s' => A' = A ∧ s' = s ∧ ∀ t, R (.ok (.ret (.bool (atK ks k).isSome))) { s with toks := t }) (fun A' R s' hS => ?_) ⟨rfl, rfl, fun t => wpAny_truthy_bool (h t)⟩
  obtain ⟨rfl, rfl, hq⟩ := hS
  show wpAny _ _ (dictGet d u >>= _) _ _ _
  refine wpAny_bind (dictGet_key (A := A'.in1) hr r hn (by simp only [Around.in1_units]; omega) hv hk fun t => ?_)
  have h1 := hq t
  cases q : atK ks k with
  | none =>
    rw [q] at h1
    show wpAny _ _ (Builtin.Dict.pendingKey? d u >>= _) _ _ _
    exact wpAny_bind (wpAny_pendingKey_other lo (wpAny_pure h1))
  | some i =>
    rw [q] at h1
    have hl : ks.length = es.size := by rw [paired_length r]; simp
    have hi : i < es.size := by have := (List.getElem?_eq_some_iff.mp (atK_some q)).1; omega
    rw [if_pos (by simp [hi])]
    exact wpAny_pure h1
theorem getItem_key {z : Value} {Q : Value → Shared → Prop} (hr : s.heap.DictRaw d es ep) (r : KeysAt w s.heap es.toList ks) (hn : ks.Nodup) (hu : A.units + 9 < cLine) (hv : NestedIs s.heap k u) (hk : k.depth ≤ 8) (hz : ((atK ks k).bind fun i => es[i]?.map (·.val)) = some z) (h : ∀ t, Q z { s with toks := t }) :
    wpAny (model prog w) A (getItem (.ref d) u) Q E s := by
  unfold getItem
  try with_reducible refine wpAny_holding ?_
  refine wpAny_bind (wpAny_sequenceKey hr.typeIs (by decide) ?_)
  refine wpAny_bind (wpAny_callSpecial?_slot (name := Str.ofString "__getitem__") hr.typeIs slot_dict_getitem (wpAny_call_entry slot_dict_getitem hr.typeIs entry_dict_getitem ?_ (args_dict_getitem _ _)))
  show wpAny _ _ (dictGet d u >>= _) _ _ s
  refine wpAny_bind (dictGet_key hr r hn (by simp only [Around.in1_units]; omega) hv hk fun t => ?_)
  rw [hz]
  exact wpAny_pure ⟨z, rfl, wpAny_pure (h t)⟩
theorem setItem_key {z : Value} {Q : Unit → Shared → Prop} (hr : s.heap.DictRaw d es ep) (r : KeysAt w s.heap es.toList ks) (hn : ks.Nodup) (hu : A.units + 9 < cLine) (hv : NestedIs s.heap k u) (hk : k.depth ≤ 8) (hsz : es.size ≤ sizeLine)
    (h : ∀ h' es' ep' t, h'.DictRaw d es' ep' → Heap.SameBut d s.heap h' → es'.toList = putE es.toList (atK ks k) ⟨k.hash w, u, z⟩ → Q () { s with heap := h', toks := t }) : wpAny (model prog w) A (setItem (.ref d) u z) Q E s := by
  unfold setItem
  try with_reducible refine wpAny_holding ?_
  refine wpAny_bind (wpAny_sequenceKey hr.typeIs (by decide) ?_)
  refine wpAny_bind (wpAny_callSpecial?_slot (name := Str.ofString "__setitem__") hr.typeIs slot_dict_setitem (wpAny_call_entry slot_dict_setitem hr.typeIs entry_dict_setitem ?_ (args_dict_setitem _ _ _)))
  show wpAny _ _ (Builtin.Dict.notOrdered "__setitem__" ⟨[.ref d, u, z], []⟩ >>= _) _ _ s
  refine wpAny_bind (wpAny_notOrdered_dict hr.typeIs ?_)
  show wpAny _ _ (dictSet d u z >>= _) _ _ s
  exact wpAny_bind (dictSet_key hr r hn (by simp only [Around.in1_units]; omega) hv hk hsz fun h' es' ep' t a b c => wpAny_pure ⟨.none, rfl, wpAny_pure (h h' es' ep' t a b c)⟩)
/-- d.get(k), d.get(k, x) -/
theorem call_get_key {more : List Value} {Q : Value → Shared → Prop} (hm : more = [] ∨ ∃ x, more = [x]) (lo : (d == sysModules) = false) (hr : s.heap.DictRaw d es ep) (r : KeysAt w s.heap es.toList ks) (hn : ks.Nodup) (hu : A.units + 9 < cLine) (hv : NestedIs s.heap k u) (hk : k.depth ≤ 8)
    (h : ∀ t, Q (((atK ks k).bind fun i => es[i]?.map (·.val)).getD (more.headD .none)) { s with toks := t }) : wpAny (model prog w) A (call (.builtin "dict.get") (.ref d :: u :: more)) Q E s := by
  refine call_meetsIn F.slot_dict_get hr.typeIs F.entry_dict_get (S := fun A' R s' => A' = A ∧ s' = s ∧ ∀ t, R (.ok (.ret (((atK ks k).bind fun i => es[i]?.map (·.val)).getD (more.headD .none)))) { s with toks := t }) ?_ (fun A' R s' hS => ?_) ⟨rfl, rfl, fun t => h t⟩
  · rcases hm with rfl | ⟨x, rfl⟩
    · exact F.args_dict_get_2 _ _
    · exact F.args_dict_get_3 _ _ _
  obtain ⟨rfl, rfl, hq⟩ := hS
  rcases hm with rfl | ⟨x, rfl⟩
  all_goals
    show wpAny _ _ (dictGet d u >>= _) _ _ _
    refine wpAny_bind (dictGet_key (A := A'.in1) hr r hn (by simp only [Around.in1_units]; omega) hv hk fun t => ?_)
    have h1 := hq t
    revert h1
    cases ((atK ks k).bind fun i => es[i]?.map (·.val)) with
    | some z => exact fun h1 => wpAny_pure h1
    | none =>
      intro h1
      show wpAny _ _ (Builtin.Dict.missed d u >>= _) _ _ _
      exact wpAny_bind (wpAny_missed_other lo (wpAny_pure h1))
end

/-! ### keys of trees -/
def kN (d : D) : NestedKey := d.key?.getD .none
theorem kN_of {d : D} {k : NestedKey} (e : d.key? = some k) : kN d = k := by unfold kN; rw [e]; rfl
def keysN (kvs : List (D × D)) : List NestedKey := kvs.map fun p => kN p.1
def getK : List (D × D) → NestedKey → Option D
  | [], _ => none
  | p :: r, k => if kN p.1 = k then some p.2 else getK r k
def setK : List (D × D) → D → D → List (D × D)
  | [], kd, d => [(kd, d)]
  | p :: r, kd, d => if kN p.1 = kN kd then (p.1, d) :: r else p :: setK r kd d
theorem atK_cons {k : NestedKey} {x : NestedKey} {ks : List NestedKey} : atK (x :: ks) k = if x = k then some 0 else (atK ks k).map (· + 1) := by
  unfold atK
  rw [List.findIdx?_cons]
  by_cases h : x = k <;> simp [h]
theorem getK_at {k : NestedKey} : ∀ {kvs : List (D × D)}, getK kvs k = (atK (keysN kvs) k).bind fun i => kvs[i]?.map (·.2)
  | [] => rfl
  | p :: r => by
    unfold getK
    rw [show keysN (p :: r) = kN p.1 :: keysN r from rfl, atK_cons]
    by_cases h : kN p.1 = k
    · rw [if_pos h, if_pos h]; rfl
    · rw [if_neg h, if_neg h, getK_at (k := k) (kvs := r)]
      cases atK (keysN r) k <;> rfl
theorem keysN_set {kd d : D} : ∀ {kvs : List (D × D)}, keysN (setK kvs kd d) = if kN kd ∈ keysN kvs then keysN kvs else keysN kvs ++ [kN kd]
  | [] => rfl
  | p :: r => by
    unfold setK
    by_cases h : kN p.1 = kN kd
    · rw [if_pos h, if_pos (by rw [show keysN (p :: r) = kN p.1 :: keysN r from rfl, h]; exact List.mem_cons_self)]
      rfl
    · rw [if_neg h, show keysN (p :: setK r kd d) = kN p.1 :: keysN (setK r kd d) from rfl, keysN_set (kvs := r), show keysN (p :: r) = kN p.1 :: keysN r from rfl]
      by_cases hm : kN kd ∈ keysN r
      · rw [if_pos hm, if_pos (List.mem_cons_of_mem _ hm)]
      · rw [if_neg hm, if_neg (fun z => (List.mem_cons.mp z).elim (fun e => h e.symm) hm)]; rfl
section
variable {X : Cx} {pins : List (Addr × Obj)} {σ : St} {H : Hp} {s : Shared}
mutual
theorem Rep.nested (I : Inv X pins σ H s) : ∀ (d : D) (fp : List Addr) (v : V) (u : Value) (k : NestedKey), Rep X.w X.K H fp v d → d.key? = some k → RelV v u → NestedIs s.heap k u
  | .non, _, _, _, _, h, e, r => by cases h; cases e; cases r; exact .none
  | .bl b, _, _, _, _, h, e, r => by cases h; cases e; cases r; exact .bool rfl
  | .int _, _, _, _, _, h, e, r => by cases h; cases e; obtain ⟨t, rfl⟩ := r; exact .int _ _
  | .str _, _, _, _, _, h, e, r => by cases h; cases e; obtain ⟨t, rfl⟩ := r; exact .text _ _
  | .opq _, _, _, _, _, _, e, _ => by cases e
  | .tup ds, _, _, _, _, h, e, r => by
    cases h with
    | tup h1 h2 =>
      obtain ⟨ks, e1, e2⟩ := Option.map_eq_some_iff.mp (show (D.keys? ds).map NestedKey.tup = some _ from e)
      subst e2
      cases r
      obtain ⟨its, rv, ⟨o, ho, hc, n, hd⟩, hz⟩ := I.tuple h1
      exact .tup ho hc hd (by simpa using Reps.nested I ds _ _ _ _ h2 e1 rv)
  | .lst _ _, _, _, _, _, _, e, _ => by cases e
  | .dct _ _, _, _, _, _, _, e, _ => by cases e
theorem Reps.nested (I : Inv X pins σ H s) : ∀ (ds : List D) (fp : List Addr) (vs : List V) (us : List Value) (ks : List NestedKey), Reps X.w X.K H fp vs ds → D.keys? ds = some ks → Vals vs us → NestedAll s.heap ks us
  | [], _, _, _, _, h, e, r => by cases h; cases e; cases r; exact .nil
  | d :: ds, _, _, _, _, h, e, r => by
    cases h with
    | cons h1 h2 =>
      cases r with
      | cons r1 r2 =>
        rw [D.keys?] at e
        split at e
        · cases e
          exact .cons (Rep.nested I d _ _ _ _ h1 (by assumption) r1) (Reps.nested I ds _ _ _ _ h2 (by assumption) r2)
        · cases e
end
abbrev EnR (x : Int × V × V) (e : DictEntry) : Prop := e.hash = x.1 ∧ RelV x.2.1 e.key ∧ RelV x.2.2 e.val
theorem RepD.keysAt (I : Inv X pins σ H s) : ∀ {kvs : List (D × D)} {fp : List Addr} {es : List (Int × V × V)} {eo : List DictEntry}, RepD X.w X.K H fp es kvs → Paired EnR es eo → KeysAt X.w s.heap eo (keysN kvs)
  | [], _, _, _, h, r => by cases h; cases r; exact .nil
  | (k, d) :: kvs, _, _, _, h, r => by
    cases h with
    | cons hk e hd h1 h2 =>
      cases r with
      | cons r1 r2 => 
        have ek := kN_of e
        show Paired _ (kN k :: keysN kvs) _
        rw [ek]
        exact .cons ⟨r1.1, hk.nested I k _ _ _ _ e r1.2.1, hd⟩ (RepD.keysAt I h2 r2)
theorem RepD.keysOf {w : World} {K : PySem.W.Frag} {H : Hp} : ∀ {kvs : List (D × D)} {fp : List Addr} {es : List (Int × V × V)}, RepD w K H fp es kvs → KW.keysOf kvs = (keysN kvs).map some
  | [], _, _, h => rfl
  | (k, d) :: kvs, _, _, h => by
    cases h with
    | cons hk e hd h1 h2 =>
      show k.key? :: KW.keysOf kvs = some (kN k) :: (keysN kvs).map some
      rw [RepD.keysOf h2]
      unfold kN
      rw [e]; rfl
theorem nodup_some {α : Type} {l : List α} : (l.map some).Nodup ↔ l.Nodup := by
  constructor
  · exact fun h => (List.pairwise_map.mp h).imp fun h e => h (congrArg some e)
  · exact fun h => List.pairwise_map.mpr (h.imp fun h e => h (Option.some.inj e))
theorem RepD.nodup {w : World} {K : PySem.W.Frag} {H : Hp} {kvs : List (D × D)} {fp : List Addr} {es : List (Int × V × V)} (r : RepD w K H fp es kvs) (h : (KW.keysOf kvs).Nodup) : (keysN kvs).Nodup := by
  rw [r.keysOf] at h
  exact nodup_some.mp h
/-- the value at a place -/
theorem RepD.val_at {w : World} {K : PySem.W.Frag} {H : Hp} {kvs : List (D × D)} {fp : List Addr} {es : List (Int × V × V)} {eo : Array DictEntry} {k : NestedKey} (r : RepD w K H fp es kvs) (rp : Paired EnR es eo.toList) :
    match getK kvs k with
    | none => ((atK (keysN kvs) k).bind fun i => eo[i]?.map (·.val)) = none
    | some d => ∃ v z fp', ((atK (keysN kvs) k).bind fun i => eo[i]?.map (·.val)) = some z ∧ RelV v z ∧ (∀ a ∈ fp', a ∈ fp) ∧ Rep w K H fp' v d := by
  rw [getK_at]
  cases q : atK (keysN kvs) k with
  | none => rfl
  | some i =>
    have hi := (List.getElem?_eq_some_iff.mp (atK_some q)).1
    have hi : i < kvs.length := by simpa [keysN] using hi
    rw [Option.bind_some, List.getElem?_eq_getElem hi]
    obtain ⟨e, h1, h2, fp', h3, h4⟩ := r.get (List.getElem?_eq_getElem hi)
    obtain ⟨y, h5, h6⟩ := paired_get rp h1
    have h5' : eo[i]? = some y := by simpa using h5
    exact ⟨e.2.2, y.val, fp', by rw [Option.bind_some, h5']; rfl, h6.2.2, h3, h4⟩
/-- a search for a tree's key in a dict's tree -/
theorem Rep.dictOf (I : Inv X pins σ H s) {fp : List Addr} {v : V} {u : Value} {o : Bool} {kvs : List (D × D)} (r : Rep X.w X.K H fp v (.dct o kvs)) (rv : RelV v u) :
    ∃ a es eo ep gp, u = .ref a ∧ (a == sysModules) = false ∧ eo.size ≤ sizeLine ∧ s.heap.DictRaw a eo ep ∧ Paired EnR es eo.toList ∧ (keysN kvs).Nodup ∧ RepD X.w X.K H gp es kvs ∧ KeysAt X.w s.heap eo.toList (keysN kvs) := by
  have go : ∀ {a es gp}, RDp a es s.heap → (KW.keysOf kvs).Nodup → RepD X.w X.K H gp es kvs → ∃ a' es eo ep gp, Value.ref a = .ref a' ∧ (a' == sysModules) = false ∧ eo.size ≤ sizeLine ∧ s.heap.DictRaw a' eo ep ∧ Paired EnR es eo.toList ∧ (keysN kvs).Nodup ∧ RepD X.w X.K H gp es kvs ∧ KeysAt X.w s.heap eo.toList (keysN kvs) := fun {a es gp} h1 hn h2 => by
    obtain ⟨hs, hz, eo, ep, hr, hp⟩ := h1
    have e1 : es.length = eo.size := by rw [paired_length hp]; simp
    exact ⟨a, es, eo, ep, gp, rfl, hs, by rw [← e1]; exact hz, hr, hp, h2.nodup hn, h2, h2.keysAt I hp⟩
  cases r with
  | dctF h1 hn h2 => cases rv; exact go (rd_at I (.inr ⟨_, h1⟩)) hn h2
  | dctO h1 hn h2 => cases rv; exact go (rd_at I (.inl h1)) hn h2
end

/-! ### a store's tree -/
def putV (es : List (Int × V × V)) (i? : Option Nat) (e : Int × V × V) : List (Int × V × V) := match i? with
  | some i => es.modify i fun x => (x.1, x.2.1, e.2.2)
  | none => es ++ [e]
theorem putV_paired {es : List (Int × V × V)} {eo : List DictEntry} {e : Int × V × V} {eo1 : DictEntry} (r : Paired EnR es eo) (h : EnR e eo1) : ∀ {i? : Option Nat}, Paired EnR (putV es i? e) (putE eo i? eo1)
  | none => by
    unfold putV putE
    induction r with
    | nil => exact .cons h .nil
    | cons a _ ih => exact .cons a ih
  | some i => by
    unfold putV putE
    induction r generalizing i with
    | nil => simpa using Paired.nil
    | cons a t ih =>
      cases i with
      | zero => exact .cons ⟨a.1, a.2.1, h.2.2⟩ t
      | succ i => exact .cons a (ih i)
theorem RepD.set {w : World} {K : PySem.W.Frag} {H : Hp} {kd d : D} {kk : NestedKey} {kv v : V} {gp : List Addr} (hk : Rep w K H [] kv kd) (e : kd.key? = some kk) (hd : kk.depth ≤ 8) (r1 : Rep w K H gp v d) :
    ∀ {kvs : List (D × D)} {fp : List Addr} {es : List (Int × V × V)}, RepD w K H fp es kvs → fp.Nodup → gp.Nodup → (∀ a ∈ gp, a ∉ fp) → ∃ fp', RepD w K H fp' (putV es (atK (keysN kvs) kk) (kk.hash w, kv, v)) (setK kvs kd d) ∧ fp'.Nodup ∧ ∀ a ∈ fp', a ∈ fp ∨ a ∈ gp
  | [], _, _, .nil, _, ng, _ => ⟨gp ++ [], .cons hk e hd r1 .nil, by simpa using ng, fun a z => .inr (by simpa using z)⟩
  | (k', d') :: kvs, _, _, .cons (fp := f1) (gp := f2) (es := es) (kk := kk') (kv := kv') (v := v') hk' e' hd' r' t, nf, ng, dj => by
    have ek := kN_of e
    have ek' := kN_of e'
    obtain ⟨n1, n2, n3⟩ := List.nodup_append.mp nf
    rw [show keysN ((k', d') :: kvs) = kN k' :: keysN kvs from rfl, atK_cons]
    unfold setK
    by_cases h : kN k' = kk
    · rw [if_pos h, if_pos (by rw [ek]; exact h)]
      have hkk : kk' = kk := by rw [← ek', h]
      refine ⟨gp ++ f2, .cons hk' e' hd' r1 t, List.nodup_append.mpr ⟨ng, n2, fun a ha b hb z => dj a ha (by rw [z]; exact List.mem_append_right _ hb)⟩, fun a z => ?_⟩
      rcases List.mem_append.mp z with z | z
      · exact .inr z
      · exact .inl (List.mem_append_right _ z)
    · rw [if_neg h, if_neg (by rw [ek]; exact h)]
      obtain ⟨fp', r2, n4, s4⟩ := RepD.set hk e hd r1 t n2 ng fun a ha z => dj a ha (List.mem_append_right _ z)
      refine ⟨f1 ++ fp', ?_, List.nodup_append.mpr ⟨n1, n4, fun a ha b hb z => ?_⟩, fun a z => ?_⟩
      · have := RepD.cons hk' e' hd' r' r2
        cases q : atK (keysN kvs) kk with
        | none => rw [q] at this; exact this
        | some i => rw [q] at this; exact this
      · subst z
        rcases s4 a hb with z | z
        · exact n3 a ha a z rfl
        · exact dj a z (List.mem_append_left _ ha)
      · rcases List.mem_append.mp z with z | z
        · exact .inl (List.mem_append_left _ z)
        · exact (s4 a z).imp (fun y => List.mem_append_right _ y) id
theorem keysOf_set {w : World} {K : PySem.W.Frag} {H : Hp} {fp fp' : List Addr} {es es' : List (Int × V × V)} {kvs : List (D × D)} {kd d : D} (r : RepD w K H fp es kvs) (hn : (KW.keysOf kvs).Nodup) (r' : RepD w K H fp' es' (setK kvs kd d)) : (KW.keysOf (setK kvs kd d)).Nodup := by
  have n1 := r.nodup hn
  rw [r'.keysOf, nodup_some, keysN_set]
  split
  · exact n1
  · rename_i h
    exact List.nodup_append.mpr ⟨n1, by simp, fun a ha b hb z => h (by rw [← List.mem_singleton.mp hb, ← z]; exact ha)⟩
theorem putV_length {es : List (Int × V × V)} {i? : Option Nat} {e : Int × V × V} : (putV es i? e).length ≤ es.length + 1 := by
  cases i? <;> simp [putV]
section
variable {X : Cx} {pins : List (Addr × Obj)} {σ : St} {H : Hp} {s : Shared}
theorem RDp.ok {a : Addr} {es : List (Int × V × V)} {h : Heap} (x : RDp a es h) : ObjOk X.prog X.w H h a (RD a es) := by
  refine ⟨x, ?_, fun h1 h2 x1 k => ?_⟩
  · obtain ⟨_, _, _, _, ⟨o, ho, _⟩, _⟩ := x
    exact ⟨o, ho⟩
  · obtain ⟨a1, a2, eo, ep, ⟨o, ho, r⟩, p⟩ := x1
    exact ⟨a1, a2, eo, ep, ⟨o, k o ho, r⟩, p⟩
/-- d[k] = v of an owned dict -/
theorem set_ok (I : Inv X pins σ H s) {a : Addr} {es : List (Int × V × V)} {kvs : List (D × D)} {fp : List Addr} {kd : D} {kk : NestedKey} {y v : V} {u z : Value} {gk : List Addr} (hu : X.A.units + 9 < cLine) (h0 : H a = some (RD a es)) (hn : (KW.keysOf kvs).Nodup) (r2 : RepD X.w X.K H fp es kvs)
    (rk : Rep X.w X.K H gk y kd) (e : kd.key? = some kk) (hd : kk.depth ≤ 8) (ry : RelV y u) (rv : RelV v z) (hz : es.length < sizeLine) {Q : Unit → Shared → Prop} (h : ∀ s', Inv X pins σ (upd H a (RD a (putV es (atK (keysN kvs) kk) (kk.hash X.w, y, v)))) s' → Q () s') :
    wpAny (model X.prog X.w) X.A (setItem (.ref a) u z) Q X.xe s := by
  obtain ⟨hs, hl, eo, ep, hr, hp⟩ := rd_at I (.inl h0)
  have e1 : es.length = eo.size := by rw [paired_length hp]; simp
  refine setItem_key hr (r2.keysAt I hp) (r2.nodup hn) hu (rk.nested I kd _ _ _ _ e ry) hd (by rw [← e1]; exact hl) fun h' es' ep' t hr' sb eq => h _ ?_
  refine I.write (h' := h') (t' := t) (x := a) (e := a) (by rw [h0]; exact trivial) (.inl rfl) (fun b ob hb eb => (sb.2 b hb).trans eb) ⟨_, hr'.choose_spec.1⟩ (RDp.ok ⟨hs, ?_, es', ep', hr', ?_⟩)
  · have := putV_length (es := es) (i? := atK (keysN kvs) kk) (e := (kk.hash X.w, y, v)); omega
  · rw [eq]
    exact putV_paired hp ⟨rfl, ry, rv⟩
end
end KW
/-! KWi: comparisons, membership, subscripts, slices, len, isinstance, all, any, sum, tuple, list, join. -/
namespace KW
open PySem PySem.Spec L2
open PyProof.Rows hiding St

/-! ### comparisons -/
def ltS (a b : Str) : Bool := decide (a.cps.toList < b.cps.toList)
def ltD : D → D → Option D
  | .int a, .int b => some (.bl (decide (a < b)))
  | .str a, .str b => some (.bl (ltS a b))
  | _, _ => none
def leD : D → D → Option D
  | .int a, .int b => some (.bl (decide (a ≤ b)))
  | .str a, .str b => some (.bl (!ltS b a))
  | _, _ => none
def gtD : D → D → Option D
  | .int a, .int b => some (.bl (decide (b < a)))
  | .str a, .str b => some (.bl (ltS b a))
  | _, _ => none
def geD : D → D → Option D
  | .int a, .int b => some (.bl (decide (b ≤ a)))
  | .str a, .str b => some (.bl (!ltS a b))
  | _, _ => none
def eqD (a b : D) : Option D := if a.flatEq && b.flatEq then some (.bl (a.eqv b)) else none
def neD (a b : D) : Option D := if a.flatEq && b.flatEq then some (.bl (!a.eqv b)) else none
def isNone : D → Bool
  | .non => true
  | _ => false
/-- is None -/
def isD : D → D → Option D
  | .opq _, _ => none
  | a, .non => some (.bl (isNone a))
  | _, _ => none
def isnD : D → D → Option D
  | .opq _, _ => none
  | a, .non => some (.bl (!isNone a))
  | _, _ => none
section
variable {X : Cx}
theorem od_lt : OpR X (compareOp .Lt) (rD X.w X.K ltD) := by
  intro pins s σ H x y v u Q I rx ry ⟨fx, fy, dx, dy, d, Rx, Ry, e, k⟩
  unfold ltD at e
  split at e
  · cases e; cases Rx; cases Ry
    exact op_lt pins s σ H _ _ v u Q I rx ry ⟨_, _, rfl, rfl, res_now k (.bl _)⟩
  · cases e; cases Rx; cases Ry
    exact op_lt_str pins s σ H _ _ v u Q I rx ry ⟨_, _, rfl, rfl, res_now k (.bl _)⟩
  · cases e
theorem od_le : OpR X (compareOp .LtE) (rD X.w X.K leD) := by
  intro pins s σ H x y v u Q I rx ry ⟨fx, fy, dx, dy, d, Rx, Ry, e, k⟩
  unfold leD at e
  split at e
  · cases e; cases Rx; cases Ry
    exact op_le pins s σ H _ _ v u Q I rx ry ⟨_, _, rfl, rfl, res_now k (.bl _)⟩
  · cases e; cases Rx; cases Ry
    exact op_le_str pins s σ H _ _ v u Q I rx ry ⟨_, _, rfl, rfl, res_now k (.bl _)⟩
  · cases e
theorem od_gt : OpR X (compareOp .Gt) (rD X.w X.K gtD) := by
  intro pins s σ H x y v u Q I rx ry ⟨fx, fy, dx, dy, d, Rx, Ry, e, k⟩
  unfold gtD at e
  split at e
  · cases e; cases Rx; cases Ry
    exact op_gt pins s σ H _ _ v u Q I rx ry ⟨_, _, rfl, rfl, res_now k (.bl _)⟩
  · cases e; cases Rx; cases Ry
    exact op_gt_str pins s σ H _ _ v u Q I rx ry ⟨_, _, rfl, rfl, res_now k (.bl _)⟩
  · cases e
theorem od_ge : OpR X (compareOp .GtE) (rD X.w X.K geD) := by
  intro pins s σ H x y v u Q I rx ry ⟨fx, fy, dx, dy, d, Rx, Ry, e, k⟩
  unfold geD at e
  split at e
  · cases e; cases Rx; cases Ry
    exact op_ge pins s σ H _ _ v u Q I rx ry ⟨_, _, rfl, rfl, res_now k (.bl _)⟩
  · cases e; cases Rx; cases Ry
    exact op_ge_str pins s σ H _ _ v u Q I rx ry ⟨_, _, rfl, rfl, res_now k (.bl _)⟩
  · cases e
theorem flatEq_of {a : D} (h : a.flatEq = true) : a.plain = true ∧ a.py.canLay0 = true ∧ a.py.depth ≤ 64 := by
  unfold D.flatEq at h
  rw [Bool.and_eq_true, Bool.and_eq_true, decide_eq_true_eq] at h
  exact ⟨h.1.1, h.1.2, h.2⟩
theorem flatEq_shaped {a : D} (h : a.flatEq = true) : SeqAt.shaped a.py = true := by
  obtain ⟨_, h1, h2⟩ := flatEq_of h
  unfold SeqAt.shaped
  rw [h1, decide_eq_true h2]; rfl
theorem od_eq (hu : X.A.units + 64 < cLine) : OpR X (compareOp .Eq) (rD X.w X.K eqD) := by
  intro pins s σ H x y v u Q I rx ry ⟨fx, fy, dx, dy, d, Rx, Ry, e, k⟩
  unfold eqD at e
  split at e
  · rename_i hb
    rw [Bool.and_eq_true] at hb
    cases e
    obtain ⟨as, ra⟩ := Rx.reads I dx _ _ _ (flatEq_of hb.1).1 rx
    obtain ⟨bs, rb⟩ := Ry.reads I dy _ _ _ (flatEq_of hb.2).1 ry
    exact SeqAt.compareEq_shaped ra rb (flatEq_shaped hb.1) (flatEq_shaped hb.2) hu ⟨.bl _, H, I, rfl, res_now k (.bl _)⟩
  · cases e
theorem od_ne (hu : X.A.units + 64 < cLine) : OpR X (compareOp .NotEq) (rD X.w X.K neD) := by
  intro pins s σ H x y v u Q I rx ry ⟨fx, fy, dx, dy, d, Rx, Ry, e, k⟩
  unfold neD at e
  split at e
  · rename_i hb
    rw [Bool.and_eq_true] at hb
    cases e
    obtain ⟨as, ra⟩ := Rx.reads I dx _ _ _ (flatEq_of hb.1).1 rx
    obtain ⟨bs, rb⟩ := Ry.reads I dy _ _ _ (flatEq_of hb.2).1 ry
    exact SeqAt.compareNe_shaped ra rb (flatEq_shaped hb.1) (flatEq_shaped hb.2) hu ⟨.bl _, H, I, rfl, res_now k (.bl _)⟩
  · cases e
theorem Rep.isNon {w : World} {K : PySem.W.Frag} {H : Hp} {fp : List Addr} {v : V} {d : D} (r : Rep w K H fp v d) (h : ∀ v, d ≠ .opq v) : decide (v = .non) = isNone d := by
  cases r with
  | non => rfl
  | opq v => exact absurd rfl (h v)
  | _ => exact decide_eq_false (fun z => nomatch z)
theorem od_is : OpR X (compareOp .Is) (rD X.w X.K isD) := by
  intro pins s σ H x y v u Q I rx ry ⟨fx, fy, dx, dy, d, Rx, Ry, e, k⟩
  unfold isD at e
  split at e
  · cases e
  · rename_i hn
    cases e; cases Ry
    refine op_isN pins s σ H _ _ v u Q I rx ry ⟨rfl, ?_⟩
    rw [Rx.isNon fun v z => hn v z]
    exact res_now k (.bl _)
  · cases e
theorem od_isn : OpR X (compareOp .IsNot) (rD X.w X.K isnD) := by
  intro pins s σ H x y v u Q I rx ry ⟨fx, fy, dx, dy, d, Rx, Ry, e, k⟩
  unfold isnD at e
  split at e
  · cases e
  · rename_i hn
    cases e; cases Ry
    refine op_notN pins s σ H _ _ v u Q I rx ry ⟨rfl, ?_⟩
    rw [Rx.isNon fun v z => hn v z]
    exact res_now k (.bl _)
  · cases e
end
/-! ### membership in texts, lists, tuples -/
def inStr (a b : Str) : Bool := match a.cps.toList with
  | [c] => decide (c ∈ b.cps.toList)
  | _ => !(Builtin.Str.occurrences b a 0 b.length 1).isEmpty
def inD : D → D → Option Bool
  | .str a, .str b => some (inStr a b)
  | a, .dct _ kvs => a.key?.bind fun k => if k.depth ≤ 8 then some (getK kvs k).isSome else none
  | a, .lst _ ds => if a.flatEq && (ds.all D.flatEq) then some (ds.any fun z => z.eqv a) else none
  | a, .tup ds => if a.flatEq && (ds.all D.flatEq) then some (ds.any fun z => z.eqv a) else none
  | _, _ => none
def inO (a b : D) : Option D := (inD a b).map .bl
def ninO (a b : D) : Option D := (inD a b).map fun c => .bl (!c)

/-! ### subscripts, slices -/
def ixD : D → D → Option D
  | .lst _ ds, .int i => (atI ds i).bind fun d => if d.isFz = true then some d else none
  | .tup ds, .int i => (atI ds i).bind fun d => if d.isFz = true then some d else none
  | .str z, .int i => if z.length ≤ sizeLine then (atI z.cps.toList i).map fun c => .str ⟨#[c]⟩ else none
  | .dct _ kvs, k => k.key?.bind fun kk => if kk.depth ≤ 8 then (getK kvs kk).bind fun d => if d.isFz = true then some d else none else none
  | _, _ => none
theorem Reps.at {w : World} {K : PySem.W.Frag} {H : Hp} {fp : List Addr} : ∀ {vs : List V} {ds : List D} {j : Nat} {d : D}, Reps w K H fp vs ds → ds[j]? = some d → ∃ v fp', vs[j]? = some v ∧ Rep w K H fp' v d
  | _, _, _, _, .nil, h => by simp at h
  | _, _, 0, _, .cons r _, h => by simp at h; subst h; exact ⟨_, _, rfl, r⟩
  | _, _, j + 1, _, .cons _ t, h => by
    obtain ⟨v, f, h1, h2⟩ := Reps.at (j := j) t (by simpa using h)
    exact ⟨v, f, by simpa using h1, h2⟩
theorem Reps.atI {w : World} {K : PySem.W.Frag} {H : Hp} {fp : List Addr} {vs : List V} {ds : List D} {i : Int} {d : D} (r : Reps w K H fp vs ds) (h : atI ds i = some d) : ∃ v fp', atI vs i = some v ∧ Rep w K H fp' v d := by
  unfold L2.atI at h ⊢
  rw [r.length]
  cases q : ixN ds.length i with
  | none => rw [q] at h; cases h
  | some j =>
    rw [q] at h
    obtain ⟨v, f, h1, h2⟩ := r.at (j := j) h
    exact ⟨v, f, h1, h2⟩
def cutD {α : Type} (xs : List α) (lo hi : Option Int) : List α := (xs.drop (HT.sIx xs.length 0 lo)).take (HT.sIx xs.length xs.length hi - HT.sIx xs.length 0 lo)
theorem Reps.drop0 {w : World} {K : PySem.W.Frag} {H : Hp} : ∀ (n : Nat) {vs : List V} {ds : List D}, Reps w K H [] vs ds → Reps w K H [] (vs.drop n) (ds.drop n)
  | 0, _, _, r => r
  | n + 1, vs, [], r => by obtain ⟨_, rfl⟩ := r.nil_inv; exact .nil
  | n + 1, vs, d :: ds, r => by
    obtain ⟨v, vr, rfl, _, r2⟩ := r.cons0
    exact Reps.drop0 n r2
theorem Reps.take0 {w : World} {K : PySem.W.Frag} {H : Hp} : ∀ (n : Nat) {vs : List V} {ds : List D}, Reps w K H [] vs ds → Reps w K H [] (vs.take n) (ds.take n)
  | 0, _, _, r => by simpa using Reps.nil
  | n + 1, vs, [], r => by obtain ⟨_, rfl⟩ := r.nil_inv; exact .nil
  | n + 1, vs, d :: ds, r => by
    obtain ⟨v, vr, rfl, r1, r2⟩ := r.cons0
    exact Reps.cons (fp := []) (gp := []) r1 (Reps.take0 n r2)
theorem Reps.cut0 {w : World} {K : PySem.W.Frag} {H : Hp} {vs : List V} {ds : List D} (r : Reps w K H [] vs ds) (lo hi : Option Int) : Reps w K H [] (cutV vs lo hi) (cutD ds lo hi) := by
  unfold cutV cutD
  rw [r.length]
  exact Reps.take0 _ (Reps.drop0 _ r)
def slD (d : D) (lo hi : Option Int) : Option D := match d with
  | .lst _ ds => if D.isFzs ds = true then some (.lst true (cutD ds lo hi)) else none
  | .tup ds => if D.isFzs ds = true then some (.tup (cutD ds lo hi)) else none
  | .str z => if z.length ≤ sizeLine then some (.str (cutS z lo hi)) else none
  | _ => none
theorem cut_all {α : Type} (xs : List α) (lo hi : Option Int) (h : HT.sIx xs.length 0 lo = 0 ∧ HT.sIx xs.length xs.length hi = xs.length) : cutD xs lo hi = xs := by
  unfold cutD
  rw [h.1, h.2]
  simp
section
variable {X : Cx}
theorem od_ix (hu : X.A.units + 9 < cLine) : IxR X (rD X.w X.K ixD) := by
  intro value slice pins s σ H x y v u Q I rx ry ⟨fx, fy, dx, dy, d, Rx, Ry, e, k⟩ hs
  unfold ixD at e
  split at e
  · cases Ry
    rw [Option.bind_eq_some_iff] at e
    obtain ⟨d', e1, e2⟩ := e
    split at e2
    · cases e2
      obtain ⟨a, xs, gp, rfl, hq, r⟩ := Rx.sqL
      obtain ⟨z, f, h1, h2⟩ := r.atI e1
      exact ix_list value slice pins s σ H _ _ v u Q I rx ry ⟨a, xs, _, z, rfl, rfl, hq, h1, res_now k (h2.fz0 (by assumption))⟩ hs
    · cases e2
  · cases Ry
    rw [Option.bind_eq_some_iff] at e
    obtain ⟨d', e1, e2⟩ := e
    split at e2
    · cases e2
      obtain ⟨a, xs, rfl, hq, r⟩ := Rx.sqT
      obtain ⟨z, f, h1, h2⟩ := r.atI e1
      exact ix_tup value slice pins s σ H _ _ v u Q I rx ry ⟨a, xs, _, z, rfl, rfl, hq, h1, res_now k (h2.fz0 (by assumption))⟩ hs
    · cases e2
  · split at e
    · cases Rx; cases Ry
      rw [Option.map_eq_some_iff] at e
      obtain ⟨c, e1, e2⟩ := e
      cases e2
      exact ix_str value slice pins s σ H _ _ v u Q I rx ry ⟨_, _, c, rfl, rfl, by assumption, e1, res_now k (.str _)⟩ hs
    · cases e
  · rw [Option.bind_eq_some_iff] at e
    obtain ⟨kk, e1, e2⟩ := e
    split at e2
    · rw [Option.bind_eq_some_iff] at e2
      obtain ⟨d', e3, e4⟩ := e2
      split at e4
      · cases e4
        obtain ⟨a, es, eo, ep, gp, rfl, _, _, hr, hp, hn, r2, ka⟩ := Rx.dictOf I rx
        have hva := r2.val_at (k := kk) hp
        rw [e3] at hva
        obtain ⟨vv, z, fp', hz, rvz, _, rr⟩ := hva
        refine tail_any hr.typeIs slot_dict_getitem.lookup (getItem_key hr ka hn hu (Ry.nested I _ _ _ _ _ e1 ry) (by assumption) hz fun t => ⟨vv, H, I.tok t, rvz, res_now k (rr.fz0 (by assumption))⟩) hs
      · cases e4
    · cases e2
  · cases e
/-- a slice by values -/
def slRD (w : World) (K : PySem.W.Frag) : V → Option Int → Option Int → Hp → VK → Prop := fun x lo hi H Q => ∃ fx dx d, Rep w K H fx x dx ∧ slD dx lo hi = some d ∧ Res w K H d Q
theorem sd_all : SlR X (slRD X.w X.K) := by
  intro pins s σ H x v vl vu lo hi sl Q I rx hs pl pu ⟨fx, dx, d, Rx, e, k⟩
  unfold slD at e
  split at e
  · split at e
    · cases e
      obtain ⟨a, xs, gp, rfl, hq, r⟩ := Rx.sqL
      have r0 := r.fz0 (by assumption)
      exact sl_list pins s σ H _ v vl vu lo hi sl Q I rx hs pl pu ⟨a, xs, rfl, hq, fun p hp => res_lst k (r0.cut0 lo hi) hp⟩
    · cases e
  · split at e
    · cases e
      obtain ⟨a, xs, rfl, hq, r⟩ := Rx.sqT
      have r0 := r.fz0 (by assumption)
      refine sl_tupA pins s σ H _ v vl vu lo hi sl Q I rx hs pl pu ⟨a, xs, rfl, hq, fun hw => ?_, fun _ p hp => res_tup k (r0.cut0 lo hi) hp⟩
      rw [r0.length] at hw
      rw [cut_all _ _ _ hw] at k
      exact res_now k (.tup hq r0)
    · cases e
  · split at e
    · cases e; cases Rx
      exact sl_str pins s σ H _ v vl vu lo hi sl Q I rx hs pl pu ⟨_, rfl, by assumption, res_now k (.str _)⟩
    · cases e
  · cases e
end
abbrev TDO := Env → (Option Int → Env → Prop) → Prop
def dNoPart : TDO := fun ρ Q => Q none ρ
def dPart (te : TDE) : TDO := fun ρ Q => te ρ fun x ρ1 => ∃ i, x.get ρ1 = some (.int i) ∧ Q (some i) ρ1
def tO (w : World) (K : PySem.W.Frag) (p : Option V) (t : TDO) : TO := fun σ H Q => ∃ ρ G P, Fit w K p H σ ρ G ∧ t ρ P ∧ ∀ o ρ' H' G', P o ρ' → Fit w K p H' σ ρ' G' → Evo G H G' H' → Q o H'
def dSl (te : TDE) (tl th : TDO) : TDE := fun ρ Q => te ρ fun x ρ1 => tl ρ1 fun lo ρ2 => th ρ2 fun hi ρ3 => ∃ dx, x.get ρ3 = some dx ∧ ∃ d, slD dx lo hi = some d ∧ Q (.val d) ρ3
section
variable {X : Cx} {p : Option V} {a b : Expr} {ta tb : TDE} {pos p2 : Pos} {lo hi : Option Expr} {tl th : TDO}
theorem PO.imp {e : Option Expr} {t t' : TO} (h : PO X e t) (m : ∀ σ H Q, t' σ H Q → t σ H Q) : PO X e t' := ⟨fun pins s σ H Q I q => h.run pins s σ H Q I (m σ H Q q)⟩
theorem pod_none : PO X none (tO X.w X.K p dNoPart) := PO.imp po_none fun σ H Q ⟨ρ, G, P, F, k, q⟩ => q _ _ H G k F (.refl G H)
theorem pod_some (h : PE X a (tE X.w X.K p ta)) : PO X (some a) (tO X.w X.K p (dPart ta)) := by
  refine PO.imp (po_some h) fun σ H Q ⟨ρ, G, P, F, k, q⟩ => ⟨ρ, G, _, F, k, fun x ρ1 v1 H1 G1 fp1 h1 F1 e1 n1 r1 => ?_⟩
  obtain ⟨i, g, pp⟩ := h1
  obtain ⟨fx, rx⟩ := r1.rep F1 g
  cases rx
  exact ⟨i, rfl, q _ _ H1 G1 pp F1 e1⟩
theorem pd_slice (he : PE X a (tE X.w X.K p ta)) (hl : PO X lo (tO X.w X.K p tl)) (hu : PO X hi (tO X.w X.K p th)) : PE X (.Subscript a (.Slice lo hi none p2) pos) (tE X.w X.K p (dSl ta tl th)) := by
  refine PE.imp (pe_slice sd_all he hl hu) fun σ H Q ⟨ρ, G, P, F, k, q⟩ => ⟨ρ, G, _, F, k, fun x ρ1 v1 H1 G1 fp1 h1 F1 e1 n1 r1 => ⟨ρ1, G1, _, F1, h1, fun l ρ2 H2 G2 h2 F2 e2 => ⟨ρ2, G2, _, F2, h2, fun u ρ3 H3 G3 h3 F3 e3 => ?_⟩⟩⟩
  obtain ⟨dx, gx, d, e, pp⟩ := h3
  obtain ⟨fx, rx⟩ := (r1.evo F1 (e2.trans e3)).rep F3 gx
  exact ⟨fx, dx, d, rx, e, res_of F3 ((e1.trans e2).trans e3) fun v H' G' fp => q _ _ v H' G' fp pp⟩
theorem pd_ix (hu : X.A.units + 9 < cLine) (ha : PE X a (tE X.w X.K p ta)) (hb : PE X b (tE X.w X.K p tb)) (hs : PlainIx b := by exact fun _ _ => rfl) : PE X (.Subscript a b pos) (tE X.w X.K p (dBin ixD ta tb)) :=
  PE.imp (pe_ix (od_ix hu) ha hb hs) fun _ _ _ h => two (fun _ _ _ _ z => z) h
end

/-! ### membership, shown -/
section
variable {X : Cx}
theorem allFlat_plain {ds : List D} (h : ds.all D.flatEq = true) : D.plains ds = true ∧ PyData.canLayAll0 (D.pys ds) = true ∧ PyData.depthAll (D.pys ds) ≤ 64 := by
  induction ds with
  | nil => exact ⟨rfl, rfl, Nat.zero_le _⟩
  | cons d ds ih =>
    rw [List.all_cons, Bool.and_eq_true] at h
    obtain ⟨h1, h2, h3⟩ := flatEq_of h.1
    obtain ⟨h4, h5, h6⟩ := ih h.2
    refine ⟨by rw [D.plains, h1, h4]; rfl, ?_, ?_⟩
    · rw [D.pys, PyData.canLayAll0, h2, h5]; rfl
    · rw [D.pys, PyData.depthAll]
      exact Nat.max_le.mpr ⟨h3, h6⟩
theorem any_pys (ds : List D) (a : D) : ((D.pys ds).any fun z => PyData.eqv z a.py) = ds.any fun z => z.eqv a := by
  rw [D.pys_eq, List.any_map]
  rfl
end
end KW
/-! KWj: in; len, isinstance, all, any, sum, tuple, list, join; append; stores. -/
namespace KW
open PySem PySem.Spec L2
open PyProof.Rows hiding St

section
variable {X : Cx}
theorem relV_str1 {c : Nat} {a : Str} (h : a.cps.toList = [c]) : a = ⟨#[c]⟩ := by
  cases a with
  | mk cps => have : cps = #[c] := by simpa using congrArg List.toArray h
              rw [this]
theorem in_room {A : Around} {xs : List PyData} {d : D} (h : d.flatEq = true) (hu : A.units + 65 < cLine) : A.units + 1 + min (PyData.depthAll xs) d.py.depth < cLine := by
  have h1 := (flatEq_of h).2.2
  have h2 : min (PyData.depthAll xs) d.py.depth ≤ d.py.depth := Nat.min_le_right _ _
  omega
theorem in_core (hu : X.A.units + 65 < cLine) {pins s σ H x y v u fx fy dx dy c} (I : Inv X pins σ H s) (rx : RelV x v) (ry : RelV y u) (Rx : Rep X.w X.K H fx x dx) (Ry : Rep X.w X.K H fy y dy) (e : inD dx dy = some c) (neg : Bool) {Q : Value → Shared → Prop} (h : Q (.bool (if neg then !c else c)) s) :
    wpAny (model X.prog X.w) X.A (compareOp (if neg then .NotIn else .In) v u) (fun r s' => r = .bool (if neg then !c else c) ∧ Inv X pins σ H s') X.xe s := by
  unfold inD at e
  split at e
  · rename_i a b
    cases e
    cases Rx; cases Ry
    by_cases h1 : ∃ c, a.cps.toList = [c]
    · obtain ⟨c, hc⟩ := h1
      have ea := relV_str1 hc
      subst ea
      have ei : inStr ⟨#[c]⟩ b = decide (c ∈ b.cps.toList) := rfl
      rw [ei]
      cases neg
      · exact wpAny_mono (op_in_sign pins s σ H _ _ v u (fun x H' => x = .bl (decide (c ∈ b.cps.toList)) ∧ H' = H) I rx ry ⟨c, _, rfl, rfl, rfl, rfl⟩) (fun r s' ⟨x, H', I', r', e1, e2⟩ => by subst e1 e2; exact ⟨r', I'⟩) fun _ _ z => z
      · exact wpAny_mono (op_notIn_sign pins s σ H _ _ v u (fun x H' => x = .bl (!decide (c ∈ b.cps.toList)) ∧ H' = H) I rx ry ⟨c, _, rfl, rfl, rfl, rfl⟩) (fun r s' ⟨x, H', I', r', e1, e2⟩ => by subst e1 e2; exact ⟨r', I'⟩) fun _ _ z => z
    · have ei : inStr a b = !(Builtin.Str.occurrences b a 0 b.length 1).isEmpty := by
        unfold inStr
        split
        · rename_i c hc; exact absurd ⟨c, hc⟩ h1
        · rfl
      rw [ei]
      cases neg
      · exact wpAny_mono (op_in_str pins s σ H _ _ v u (fun x H' => x = .bl (!(Builtin.Str.occurrences b a 0 b.length 1).isEmpty) ∧ H' = H) I rx ry ⟨_, _, rfl, rfl, rfl, rfl⟩) (fun r s' ⟨x, H', I', r', e1, e2⟩ => by subst e1 e2; exact ⟨r', I'⟩) fun _ _ z => z
      · exact wpAny_mono (op_notin_str pins s σ H _ _ v u (fun x H' => x = .bl (!(!(Builtin.Str.occurrences b a 0 b.length 1).isEmpty)) ∧ H' = H) I rx ry ⟨_, _, rfl, rfl, rfl, rfl⟩) (fun r s' ⟨x, H', I', r', e1, e2⟩ => by subst e1 e2; exact ⟨r', I'⟩) fun _ _ z => z
  · rename_i kvs
    rw [Option.bind_eq_some_iff] at e
    obtain ⟨k, e1, e2⟩ := e
    split at e2
    · cases e2
      obtain ⟨a, es, eo, ep, gp, rfl, lo, _, hr, hp, hn, r2, ka⟩ := Ry.dictOf I ry
      have hi : (atK (keysN kvs) k).isSome = (getK kvs k).isSome := by
        have hva := r2.val_at (k := k) hp
        rw [getK_at]
        cases q : atK (keysN kvs) k with
        | none => rfl
        | some i =>
          have h1 := (List.getElem?_eq_some_iff.mp (atK_some q)).1
          rw [Option.bind_some, List.getElem?_eq_getElem (by simpa [keysN] using h1)]
          rfl
      have hc : ∀ {Q' : Bool → Shared → Prop}, (∀ t, Q' (getK kvs k).isSome { s with toks := t }) → wpAny (model X.prog X.w) X.A (contains (.ref a) v) Q' X.xe s := fun h => contains_key lo hr ka hn (by omega) (Rx.nested I _ _ _ _ _ e1 rx) (by assumption) fun t => by rw [hi]; exact h t
      cases neg
      · show wpAny _ _ (do return Value.bool (← contains (.ref a) v)) _ _ s
        exact wpAny_bind (hc fun t => wpAny_pure ⟨rfl, I.tok t⟩)
      · show wpAny _ _ (do return Value.bool (!(← contains (.ref a) v))) _ _ s
        exact wpAny_bind (hc fun t => wpAny_pure ⟨rfl, I.tok t⟩)
    · cases e2
  · split at e
    · rename_i hb
      rw [Bool.and_eq_true] at hb
      cases e
      obtain ⟨hp, hc, _⟩ := flatEq_of hb.1
      obtain ⟨hps, hcs, _⟩ := allFlat_plain hb.2
      obtain ⟨as, ra⟩ := Rx.reads I dx _ _ _ hp rx
      obtain ⟨bs, rb⟩ := Ry.reads I _ _ _ _ (by rw [D.plain]; exact hps) ry
      rw [D.py] at rb
      cases neg
      · exact SeqAt.in_list_reads rb ra hcs hc (in_room hb.1 hu) ⟨by rw [any_pys]; rfl, I⟩
      · exact SeqAt.notIn_list_reads rb ra hcs hc (in_room hb.1 hu) ⟨by rw [any_pys]; rfl, I⟩
    · cases e
  · split at e
    · rename_i hb
      rw [Bool.and_eq_true] at hb
      cases e
      obtain ⟨hp, hc, _⟩ := flatEq_of hb.1
      obtain ⟨hps, hcs, _⟩ := allFlat_plain hb.2
      obtain ⟨as, ra⟩ := Rx.reads I dx _ _ _ hp rx
      obtain ⟨bs, rb⟩ := Ry.reads I _ _ _ _ (by rw [D.plain]; exact hps) ry
      rw [D.py] at rb
      cases neg
      · exact SeqAt.in_tuple_reads rb ra hcs hc (in_room hb.1 hu) ⟨by rw [any_pys]; rfl, I⟩
      · exact SeqAt.notIn_tuple_reads rb ra hcs hc (in_room hb.1 hu) ⟨by rw [any_pys]; rfl, I⟩
    · cases e
  · cases e
theorem od_in (hu : X.A.units + 65 < cLine) : OpR X (compareOp .In) (rD X.w X.K inO) := by
  intro pins s σ H x y v u Q I rx ry ⟨fx, fy, dx, dy, d, Rx, Ry, e, k⟩
  obtain ⟨c, e1, e2⟩ := Option.map_eq_some_iff.mp e
  cases e2
  exact wpAny_mono (in_core hu I rx ry Rx Ry e1 false (Q := fun _ _ => True) trivial) (fun r s' ⟨er, I'⟩ => ⟨.bl c, H, I', er, res_now k (.bl _)⟩) fun _ _ z => z
theorem od_nin (hu : X.A.units + 65 < cLine) : OpR X (compareOp .NotIn) (rD X.w X.K ninO) := by
  intro pins s σ H x y v u Q I rx ry ⟨fx, fy, dx, dy, d, Rx, Ry, e, k⟩
  obtain ⟨c, e1, e2⟩ := Option.map_eq_some_iff.mp e
  cases e2
  exact wpAny_mono (in_core hu I rx ry Rx Ry e1 true (Q := fun _ _ => True) trivial) (fun r s' ⟨er, I'⟩ => ⟨.bl (!c), H, I', er, res_now k (.bl _)⟩) fun _ _ z => z
end

/-! ### len -/
def lenD : List D → Option D
  | [.lst _ ds] => some (.int ds.length)
  | [.tup ds] => some (.int ds.length)
  | [.dct _ kvs] => some (.int kvs.length)
  | [.str z] => if z.length ≤ sizeLine then some (.int z.length) else none
  | _ => none
theorem RepAny.one {w : World} {K : PySem.W.Frag} {H : Hp} {vs : List V} {d : D} (r : RepAny w K H vs [d]) : ∃ v fp, vs = [v] ∧ Rep w K H fp v d := by
  cases r with
  | cons h t => obtain ⟨fp, h⟩ := h; cases t; exact ⟨_, _, rfl, h⟩
theorem RepAny.two {w : World} {K : PySem.W.Frag} {H : Hp} {vs : List V} {d e : D} (r : RepAny w K H vs [d, e]) : ∃ v u fp gp, vs = [v, u] ∧ Rep w K H fp v d ∧ Rep w K H gp u e := by
  cases r with
  | cons h t => 
    obtain ⟨fp, h⟩ := h
    obtain ⟨u, gp, rfl, h2⟩ := RepAny.one t
    exact ⟨_, _, _, _, rfl, h, h2⟩
/-- a dict's tree, where it stands -/
theorem Rep.rdp {X : Cx} {pins : List (Addr × Obj)} {σ : St} {H : Hp} {s : Shared} (I : Inv X pins σ H s) {fp : List Addr} {v : V} {o : Bool} {kvs : List (D × D)} (r : Rep X.w X.K H fp v (.dct o kvs)) : ∃ a es gp, v = .ref a ∧ RDp a es s.heap ∧ (keysOf kvs).Nodup ∧ RepD X.w X.K H gp es kvs := by
  cases r with
  | dctF h1 hn h2 => exact ⟨_, _, _, rfl, rd_at I (.inr ⟨_, h1⟩), hn, h2⟩
  | dctO h1 hn h2 => exact ⟨_, _, _, rfl, rd_at I (.inl h1), hn, h2⟩
section
variable {X : Cx}
theorem cd_len : CallR X (.builtin "len") (cD X.w X.K lenD) := by
  intro pins s σ H xs us Q I r ⟨ds, d, ra, e, k⟩
  unfold lenD at e
  split at e
  · cases e
    obtain ⟨v, fp, rfl, rv⟩ := ra.one
    obtain ⟨a, ys, gp, rfl, hq, r2⟩ := rv.sqL
    exact call_len_seq pins s σ H _ us Q I r ⟨a, ys, rfl, .inl hq, by rw [r2.length]; exact res_now k (.int _)⟩
  · cases e
    obtain ⟨v, fp, rfl, rv⟩ := ra.one
    obtain ⟨a, ys, rfl, hq, r2⟩ := rv.sqT
    exact call_len_seq pins s σ H _ us Q I r ⟨a, ys, rfl, .inr hq, by rw [r2.length]; exact res_now k (.int _)⟩
  · cases e
    obtain ⟨v, fp, rfl, rv⟩ := ra.one
    obtain ⟨a, es, gp, rfl, ⟨hs, hz, eo, ep, hr, hp⟩, hn, r2⟩ := rv.rdp I
    obtain ⟨u, rfl, ru⟩ := vals1 r
    cases ru
    have hl : eo.size = (es.length : Nat) := by rw [paired_length hp]; simp
    have hle : es.length = ‹List (D × D)›.length := r2.length
    rw [sizeLine_eq] at hz
    refine call_len_slot (n := es.length) hr.typeIs PySem.F.slot_dict_len (fun Q' hq => call_len_raw hs hr (by rw [hl]; exact hq)) (by omega) (by omega) ⟨.int es.length, H, I.tok _, ⟨_, rfl⟩, ?_⟩
    rw [hle]
    exact res_now k (.int _)
  · split at e
    · cases e
      obtain ⟨v, fp, rfl, rv⟩ := ra.one
      cases rv
      exact call_len_str pins s σ H _ us Q I r ⟨_, rfl, by assumption, res_now k (.int _)⟩
    · cases e
  · cases e

/-! ### isinstance -/
end
inductive Ty where
  | none | bool | int | str | tuple | list | dict
  deriving DecidableEq
def Ty.name : Ty → String
  | .none => "NoneType" | .bool => "bool" | .int => "int" | .str => "str" | .tuple => "tuple" | .list => "list" | .dict => "dict"
def D.ty : D → Option Ty
  | .non => some .none | .bl _ => some .bool | .int _ => some .int | .str _ => some .str | .tup _ => some .tuple | .lst _ _ => some .list | .dct _ _ => some .dict | .opq _ => Option.none
/-- whether a value of the type t is one of the type n -/
def Ty.isa (t n : Ty) : Bool := decide (t = n) || (decide (t = .bool) && decide (n = .int))
def isiD (n : Ty) (d : D) : Option D := d.ty.map fun t => .bl (t.isa n)
theorem ty_kit : ∀ t n : Ty, kitB t.name n.name = some (t.isa n) := by
  intro t n
  cases t <;> cases n <;> decide +kernel
theorem Rep.kit {X : Cx} {pins : List (Addr × Obj)} {σ : St} {H : Hp} {s : Shared} (I : Inv X pins σ H s) {fp : List Addr} {x : V} {d : D} {u : Value} {t : Ty} (r : Rep X.w X.K H fp x d) (rx : RelV x u) (h : d.ty = some t) : ∃ P : Heap → Prop, PySem.W.KitX X.K u (.type t.name) P ∧ P s.heap ∧ u ≠ .builtin "__main__.__loader__#opaque" := by
  cases r with
  | non => cases h; cases rx; exact ⟨_, PySem.W.kitx_none, trivial, fun z => nomatch z⟩
  | bl b => cases h; cases rx; exact ⟨_, PySem.W.kitx_bool, trivial, fun z => nomatch z⟩
  | int i => cases h; obtain ⟨t, rfl⟩ := rx; exact ⟨_, PySem.W.kitx_int, trivial, fun z => nomatch z⟩
  | str x => cases h; obtain ⟨t, rfl⟩ := rx; exact ⟨_, PySem.W.kitx_str, trivial, fun z => nomatch z⟩
  | opq v => cases h
  | tup h1 h2 =>
    cases h; cases rx
    obtain ⟨its, rv, ⟨o, ho, hc, n, hd⟩, hz⟩ := I.tuple h1
    exact ⟨_, PySem.W.kitx_tuple, ⟨o, ho, hc⟩, fun z => nomatch z⟩
  | lstF h1 h2 =>
    cases h; cases rx
    obtain ⟨its, rv, ⟨o, n, ho, hc, _, hd⟩, hz⟩ := I.list h1.sq
    exact ⟨_, PySem.W.kitx_list, ⟨o, ho, hc⟩, fun z => nomatch z⟩
  | lstO h1 h2 =>
    cases h; cases rx
    obtain ⟨its, rv, ⟨o, n, ho, hc, _, hd⟩, hz⟩ := I.list (SqL.of h1)
    exact ⟨_, PySem.W.kitx_list, ⟨o, ho, hc⟩, fun z => nomatch z⟩
  | dctF h1 hn h2 =>
    cases h; cases rx
    obtain ⟨hs, hz, eo, ep, ⟨o, ho, ⟨hc, _⟩, hd⟩, hpd⟩ := rd_at I (.inr ⟨_, h1⟩)
    exact ⟨_, PySem.W.kitx_dict, ⟨o, ho, hc⟩, fun z => nomatch z⟩
  | dctO h1 hn h2 =>
    cases h; cases rx
    obtain ⟨hs, hz, eo, ep, ⟨o, ho, ⟨hc, _⟩, hd⟩, hpd⟩ := rd_at I (.inl h1)
    exact ⟨_, PySem.W.kitx_dict, ⟨o, ho, hc⟩, fun z => nomatch z⟩
section
variable {X : Cx} {p : Option V}
theorem call_isT (n : Ty) : CallR X (.builtin "isinstance") (fun xs H Q => ∃ x fx dx d, xs = [x, .ty n.name] ∧ Rep X.w X.K H fx x dx ∧ isiD n dx = some d ∧ Res X.w X.K H d Q) := by
  intro pins s σ H xs us Q I r ⟨x, fx, dx, d, ex, rx, e, k⟩
  subst ex
  obtain ⟨u1, u2, rfl, r1, r2⟩ := vals2 r
  cases r2
  obtain ⟨t, e1, e2⟩ := Option.map_eq_some_iff.mp e
  cases e2
  obtain ⟨P, Z, p, hx⟩ := rx.kit I r1 e1
  exact PySem.W.kia_one Z I.kIn p (kit_ty (ty_kit t n)) hx fun tk => ⟨.bl _, H, I.tok tk, rfl, res_now k (.bl _)⟩
def dIsi (n : Ty) (te : TDE) : TDE := dUn (isiD n) te
theorem pd_isi (n : Ty) {nm : Str} {p' pn pos : Pos} {e : Expr} {te : TDE} (he : PE X e (tE X.w X.K p te)) (hg : Gl X "isinstance") (hm : X.mg "isinstance" = none) (hgn : Gl X nm) (hmn : X.mg nm = none) (hv : bootBuiltins nm = some (.type n.name) := by decide +kernel) (hd : nm ≠ "__name__" := by decide) (hdd : (nm == ("__debug__" : Str)) = false := by decide)
    (hs : starEach [e, .Name nm pn] X.env = (false, eval e X.env) :: starEach [.Name nm pn] X.env := by rfl) (hs2 : starEach [.Name nm pn] X.env = (false, eval (.Name nm pn) X.env) :: starEach [] X.env := by rfl) (hpl : (backTo pos (starEach [.Name nm pn] X.env)).any (·.1) = false := by rfl) :
    PE X (.Call (.Name "isinstance" p') [e, .Name nm pn] [] pos) (tE X.w X.K p (dIsi n te)) := by
  refine PE.imp (pe_callB (call_isT n) hg hm (by decide +kernel) (pa_cons he (pa_cons (pe_bltn (v := .ty n.name) hgn hmn hv rfl hd hdd) pa_nil hs2) hs) (by decide) (by decide) hs hpl) fun σ H Q ⟨ρ, G, P, F, k, q⟩ => ⟨ρ, G, _, F, k, fun x ρ1 v1 H1 G1 fp1 h1 F1 e1 n1 r1 => ?_⟩
  obtain ⟨dx, gx, d, e, pp⟩ := h1
  obtain ⟨fx, rx⟩ := r1.rep F1 gx
  exact ⟨v1, fx, dx, d, rfl, rx, e, res_of F1 e1 fun v H' G' fp => q _ _ v H' G' fp pp⟩

/-! ### all, any, sum, tuple, list -/
def boolsD : List D → Option (List Bool)
  | [] => some []
  | .bl b :: ds => (boolsD ds).map (b :: ·)
  | _ => none
def intsD : List D → Option (List Int)
  | [] => some []
  | .int b :: ds => (intsD ds).map (b :: ·)
  | _ => none
def strsD : List D → Option (List Str)
  | [] => some []
  | .str b :: ds => (strsD ds).map (b :: ·)
  | _ => none
theorem bools_vals {w : World} {K : PySem.W.Frag} {H : Hp} : ∀ {ds : List D} {fp : List Addr} {vs : List V} {bs : List Bool}, Reps w K H fp vs ds → boolsD ds = some bs → vs = bs.map V.bl
  | [], _, _, _, r, h => by cases h; exact r.nil_inv.2
  | d :: ds, _, _, _, r, h => by
    obtain ⟨v, vr, f, g, rfl, rfl, r1, r2⟩ := r.cons_inv
    cases d with
    | bl b =>
      obtain ⟨bs', e1, e2⟩ := Option.map_eq_some_iff.mp (show (boolsD ds).map (b :: ·) = some _ from h)
      subst e2
      cases r1
      rw [bools_vals r2 e1]; rfl
    | _ => cases h
theorem ints_vals {w : World} {K : PySem.W.Frag} {H : Hp} : ∀ {ds : List D} {fp : List Addr} {vs : List V} {bs : List Int}, Reps w K H fp vs ds → intsD ds = some bs → vs = bs.map V.int
  | [], _, _, _, r, h => by cases h; exact r.nil_inv.2
  | d :: ds, _, _, _, r, h => by
    obtain ⟨v, vr, f, g, rfl, rfl, r1, r2⟩ := r.cons_inv
    cases d with
    | int b =>
      obtain ⟨bs', e1, e2⟩ := Option.map_eq_some_iff.mp (show (intsD ds).map (b :: ·) = some _ from h)
      subst e2
      cases r1
      rw [ints_vals r2 e1]; rfl
    | _ => cases h
theorem strs_vals {w : World} {K : PySem.W.Frag} {H : Hp} : ∀ {ds : List D} {fp : List Addr} {vs : List V} {bs : List Str}, Reps w K H fp vs ds → strsD ds = some bs → vs = bs.map V.str
  | [], _, _, _, r, h => by cases h; exact r.nil_inv.2
  | d :: ds, _, _, _, r, h => by
    obtain ⟨v, vr, f, g, rfl, rfl, r1, r2⟩ := r.cons_inv
    cases d with
    | str b =>
      obtain ⟨bs', e1, e2⟩ := Option.map_eq_some_iff.mp (show (strsD ds).map (b :: ·) = some _ from h)
      subst e2
      cases r1
      rw [strs_vals r2 e1]; rfl
    | _ => cases h
def allD : List D → Option D
  | [.lst _ ds] => (boolsD ds).map fun bs => .bl (bs.all id)
  | _ => none
def anyD : List D → Option D
  | [.lst _ ds] => (boolsD ds).map fun bs => .bl (bs.any id)
  | _ => none
def sumD : List D → Option D
  | [.lst _ ds] => (intsD ds).map fun bs => .int bs.sum
  | _ => none
theorem cd_all (hc : X.calm = true) : CallR X (.builtin "all") (cD X.w X.K allD) := by
  intro pins s σ H xs us Q I r ⟨ds, d, ra, e, k⟩
  unfold allD at e
  split at e
  · obtain ⟨bs, e1, e2⟩ := Option.map_eq_some_iff.mp e
    cases e2
    obtain ⟨v, fp, rfl, rv⟩ := ra.one
    obtain ⟨a, ys, gp, rfl, hq, r2⟩ := rv.sqL
    exact cr_all hc pins s σ H _ us Q I r ⟨a, bs, rfl, by rw [← bools_vals r2 e1]; exact hq, res_now k (.bl _)⟩
  · cases e
theorem cd_any (hc : X.calm = true) : CallR X (.builtin "any") (cD X.w X.K anyD) := by
  intro pins s σ H xs us Q I r ⟨ds, d, ra, e, k⟩
  unfold anyD at e
  split at e
  · obtain ⟨bs, e1, e2⟩ := Option.map_eq_some_iff.mp e
    cases e2
    obtain ⟨v, fp, rfl, rv⟩ := ra.one
    obtain ⟨a, ys, gp, rfl, hq, r2⟩ := rv.sqL
    exact cr_any hc pins s σ H _ us Q I r ⟨a, bs, rfl, by rw [← bools_vals r2 e1]; exact hq, res_now k (.bl _)⟩
  · cases e
theorem cd_sum (hc : X.calm = true) : CallR X (.builtin "sum") (cD X.w X.K sumD) := by
  intro pins s σ H xs us Q I r ⟨ds, d, ra, e, k⟩
  unfold sumD at e
  split at e
  · obtain ⟨bs, e1, e2⟩ := Option.map_eq_some_iff.mp e
    cases e2
    obtain ⟨v, fp, rfl, rv⟩ := ra.one
    obtain ⟨a, ys, gp, rfl, hq, r2⟩ := rv.sqL
    exact cr_sum hc pins s σ H _ us Q I r ⟨a, bs, rfl, by rw [← ints_vals r2 e1]; exact hq, res_now k (.int _)⟩
  · cases e
/-- tuple(..), list(..) of lists and tuples -/
def tupleD : List D → Option D
  | [.lst _ ds] => if D.isFzs ds = true then some (.tup ds) else none
  | [.tup ds] => if D.isFzs ds = true then some (.tup ds) else none
  | _ => none
def listD : List D → Option D
  | [.lst _ ds] => if D.isFzs ds = true then some (.lst true ds) else none
  | [.tup ds] => if D.isFzs ds = true then some (.lst true ds) else none
  | _ => none
theorem cd_tuple : CallR X (.type "tuple") (cD X.w X.K tupleD) := by
  intro pins s σ H xs us Q I r ⟨ds, d, ra, e, k⟩
  unfold tupleD at e
  split at e
  · split at e
    · cases e
      obtain ⟨v, fp, rfl, rv⟩ := ra.one
      obtain ⟨a, ys, gp, rfl, hq, r2⟩ := rv.sqL
      exact call_tuple_of pins s σ H _ us Q I r ⟨a, ys, rfl, .inl ⟨hq, fun l hl => res_tup k (r2.fz0 (by assumption)) hl⟩⟩
    · cases e
  · split at e
    · cases e
      obtain ⟨v, fp, rfl, rv⟩ := ra.one
      obtain ⟨a, ys, rfl, hq, r2⟩ := rv.sqT
      exact call_tuple_of pins s σ H _ us Q I r ⟨a, ys, rfl, .inr ⟨hq, res_now k (.tup hq (r2.fz0 (by assumption)))⟩⟩
    · cases e
  · cases e
theorem cd_list : CallR X (.type "list") (cD X.w X.K listD) := by
  intro pins s σ H xs us Q I r ⟨ds, d, ra, e, k⟩
  unfold listD at e
  split at e
  · split at e
    · cases e
      obtain ⟨v, fp, rfl, rv⟩ := ra.one
      obtain ⟨a, ys, gp, rfl, hq, r2⟩ := rv.sqL
      exact call_list_of pins s σ H _ us Q I r ⟨a, ys, rfl, .inl hq, fun l hl => res_lst k (r2.fz0 (by assumption)) hl⟩
    · cases e
  · split at e
    · cases e
      obtain ⟨v, fp, rfl, rv⟩ := ra.one
      obtain ⟨a, ys, rfl, hq, r2⟩ := rv.sqT
      exact call_list_of pins s σ H _ us Q I r ⟨a, ys, rfl, .inr hq, fun l hl => res_lst k (r2.fz0 (by assumption)) hl⟩
    · cases e
  · cases e
/-- int(..) of ints and booleans -/
def intD : List D → Option D
  | [.int i] => some (.int i)
  | [.bl b] => some (.int (if b = true then 1 else 0))
  | _ => none
theorem cd_int : CallR X (.type "int") (cD X.w X.K intD) := by
  intro pins s σ H xs us Q I r ⟨ds, d, ra, e, k⟩
  unfold intD at e
  split at e
  · cases e
    obtain ⟨v, fp, rfl, rv⟩ := ra.one
    cases rv
    exact call_int1 pins s σ H _ us Q I r (.inl ⟨_, rfl, res_now k (.int _)⟩)
  · cases e
    obtain ⟨v, fp, rfl, rv⟩ := ra.one
    cases rv
    exact call_int1 pins s σ H _ us Q I r (.inr ⟨_, rfl, res_now k (.int _)⟩)
  · cases e
end
end KW
/-! KWl: walks: ranges, enumerate, zip. -/
namespace KW
open PySem PySem.Spec L2
open PyProof.Rows hiding St

theorem vals_back : ∀ {xs : List V} {us : List Value} {i : Nat} {u : Value}, Vals xs us → us[i]? = some u → ∃ x, xs[i]? = some x ∧ RelV x u
  | _, _, i, u, .nil, h => by simp at h
  | _, _, 0, u, .cons r _, h => by simp at h; subst h; exact ⟨_, rfl, r⟩
  | _, _, i + 1, u, .cons _ t, h => by
    obtain ⟨x, h1, h2⟩ := vals_back (i := i) t (by simpa using h)
    exact ⟨x, by simpa using h1, h2⟩
/-! ### the library's walks of pairs as turns -/
/-- at s the iterator I walks n pairs; its own cells: cells -/
def WkAt (P : Program) (w : World) (I : Addr) (cells : List Addr) (n : Nat) (It : Nat → Heap → Prop) (Vs : Nat → List V → Prop) (A : Around) (s : Shared) : Prop :=
  ∃ fp wr Pt St Mid, WalksT P w A I fp wr n Pt St Mid ∧ (∀ b ∈ wr, b ∈ cells) ∧ (∀ i, It i s.heap → St i s.heap) ∧ (∀ i h', St i h' → It i h') ∧ ∀ i vs, i < n → Pt i vs → ∃ xs, Vs i xs ∧ Vals xs vs.toList ∧ xs.length ≤ sizeLine
def ItW (n : Nat) (Gd : Hp → Prop) (Vs : Nat → List V → Prop) : It :=
  ⟨fun i H => i < n ∧ Gd H, fun i H v H' => ∃ T xs, v = .ref T ∧ H T = none ∧ H' = upd H T (.tup xs) ∧ Vs i xs, fun i H => i = n ∧ Gd H⟩
theorem turn_wk {P : Program} {w : World} {K : PySem.W.Frag} {elts : List Expr} {kk : Nat} {tpos : Pos} {I : Addr} {cells : List Addr} {n : Nat} {It : Nat → Heap → Prop} {Vs : Nat → List V → Prop} {Gd : Hp → Prop} (hI : I ∈ cells)
    (ho : ∀ i h, It i h → ∀ b ∈ cells, ∃ o, h.get? b = some o ∧ ∀ v, o.data ≠ .cell v) (hk : ∀ i h h', It i h → (∀ b ∈ cells, ∀ o, h.get? b = some o → h'.get? b = some o) → It i h') (hs : ∀ A i s Q E, It i s.heap → Q (.ref I) s → wpAny (model P w) A (pyIter (.ref I)) Q E s)
    (W : ∀ (X : Cx) (pins : List (Addr × Obj)) (s : Shared) (σ : L2.St) (H : Hp), X.prog = P → X.w = w → X.K = K → X.calm = true → Inv X pins σ H s → Gd H → WkAt P w I cells n It Vs X.A s) :
    Turn P w K (.Tuple elts kk tpos) (ItW n Gd Vs) cells I It where
  mem := hI
  obj := ho
  keep := hk
  item := by
    intro X hP hw hK hc i pins s σ H E Iv hf st ⟨hi, hg⟩
    obtain ⟨fp, wr, Pt, St, Mid, wk, hwr, h1, h2, h3⟩ := W X pins s σ H hP hw hK hc Iv hg
    subst hP hw hK
    have hs0 := h1 i st
    refine wk.item i s _ _ hi hs0 fun T vals h' tk hPt hT hIT hM hkp => ?_
    refine ⟨_, rfl, wk.go elts kk tpos i T { s with heap := h', toks := tk } _ _ hM fun h'' hst' hkp' => ?_⟩
    obtain ⟨xs, hV, hvs, hz⟩ := h3 i vals hi hPt
    obtain ⟨o, ho1, ho2, m, ho3⟩ := hIT
    have hT2 : h''.get? T = some o := hkp' T o (wk.apart i T h' hM) ho1
    have new : ObjOk X.prog X.w (upd H T (.tup xs)) h'' T (.tup xs) := ⟨hz, vals.toList, hvs, ⟨o, hT2, ho2, m, by simpa using ho3⟩⟩
    have I1 : Inv X pins σ (upd H T (.tup xs)) { s with heap := h'', toks := tk } :=
      Iv.turnedNew (ch := cells) (fun b ob hb q => hkp' b ob (fun z => hb (hwr b z)) (hkp b ob (fun z => hb (hwr b z)) q)) hf hT new
    refine ⟨.ref T, _, I1, rfl, ⟨T, xs, rfl, Iv.hok.fresh hT, rfl, hV⟩, h2 _ _ hst', fun b hb => ?_⟩
    obtain ⟨ob, hob, _⟩ := ho i s.heap st b hb
    rw [upd_ne (Nat.ne_of_lt (Nat.lt_of_lt_of_le (Heap.lt_size hob) hT))]
    exact (hf b hb).1
  done := by
    intro X hP hw hK hc i pins s σ H E Iv hf st ⟨hi, hg⟩
    obtain ⟨fp, wr, Pt, St, Mid, wk, hwr, h1, h2, h3⟩ := W X pins s σ H hP hw hK hc Iv hg
    subst hP hw hK hi
    exact wk.done s _ _ (h1 _ st) fun h' tk hkp => ⟨rfl, Iv.turnedL (ch := cells) (fun b ob hb q => hkp b ob (fun z => hb (hwr b z)) q) hf⟩
  self := hs

/-! ### sources: frozen lists, tuples, texts -/
inductive Src where
  | lst (a : Addr) (xs : List V) | tup (a : Addr) (xs : List V) | str (x : Str) (t : Tok)
namespace Src
def vals : Src → List V
  | .lst _ xs => xs
  | .tup _ xs => xs
  | .str x _ => x.cps.toList.map fun c => .str ⟨#[c]⟩
def value : Src → Value
  | .lst a _ => .ref a
  | .tup a _ => .ref a
  | .str x t => .str x t
def In (K : PySem.W.Frag) (H : Hp) : Src → Prop
  | .lst a xs => FrL K H a xs
  | .tup a xs => SqT K H a xs
  | .str _ _ => True
/-- not one of the cells c -/
def Off (c : Addr) : Src → Prop
  | .lst a _ => a ≠ c
  | .tup a _ => a ≠ c
  | .str _ _ => True
def iter (it : Addr) (i : Nat) (h : Heap) : Src → Prop
  | .lst a _ => h.IsListIter it a i
  | .tup a _ => h.IsTupleIter it a i
  | .str x t => h.IsStrIter it (strIterType x) x t i
def cells (it : Addr) : Src → List Addr
  | .lst a _ => [it, a]
  | .tup a _ => [it, a]
  | .str _ _ => [it]
theorem off_cells {S : Src} {it c : Addr} (h1 : c ≠ it) (h2 : S.Off c) : c ∉ S.cells it := by
  cases S with
  | lst a xs => intro z; rcases List.mem_cons.mp z with z | z; exact h1 z; exact h2 (List.mem_singleton.mp z).symm
  | tup a xs => intro z; rcases List.mem_cons.mp z with z | z; exact h1 z; exact h2 (List.mem_singleton.mp z).symm
  | str x t => intro z; exact h1 (List.mem_singleton.mp z)
theorem mem_cells {S : Src} {it : Addr} : it ∈ S.cells it := by cases S <;> exact List.mem_cons_self
theorem iter_obj {S : Src} {it : Addr} {i : Nat} {h : Heap} (x : S.iter it i h) : ∃ o, h.get? it = some o ∧ ∀ v, o.data ≠ .cell v := by
  cases S with
  | lst a xs => obtain ⟨o, h1, _, h2⟩ := x; exact ⟨o, h1, fun v z => by rw [h2] at z; cases z⟩
  | tup a xs => obtain ⟨o, h1, _, h2⟩ := x; exact ⟨o, h1, fun v z => by rw [h2] at z; cases z⟩
  | str x' t => obtain ⟨o, h1, _, h2⟩ := x; exact ⟨o, h1, fun v z => by rw [h2] at z; cases z⟩
theorem iter_keep {S : Src} {it : Addr} {i : Nat} {h h' : Heap} (x : S.iter it i h) (k : ∀ o, h.get? it = some o → h'.get? it = some o) : S.iter it i h' := by
  cases S with
  | lst a xs => exact Heap.IsListIter.at x k
  | tup a xs => obtain ⟨o, h1, r⟩ := x; exact ⟨o, k o h1, r⟩
  | str x' t => obtain ⟨o, h1, r⟩ := x; exact ⟨o, k o h1, r⟩
variable {X : Cx} {pins : List (Addr × Obj)} {σ : L2.St} {H : Hp} {s : Shared}
/-- what may be drawn from a source -/
theorem draws (I : Inv X pins σ H s) {A : Around} (hh : A.handled = none) (S : Src) (hin : S.In X.K H) {it : Addr} (hit : S.Off it) :
    ∃ n P St, n = S.vals.length ∧ Draws X.prog X.w A it (S.cells it) n P St ∧ (∀ i, S.iter it i s.heap → St i s.heap) ∧ (∀ i h', St i h' → S.iter it i h') ∧ ∀ i u, P i u → ∃ x, S.vals[i]? = some x ∧ RelV x u := by
  cases S with
  | lst a xs =>
    obtain ⟨its, rv, pl, hz⟩ := I.list hin.sq
    refine ⟨its.toArray.size, _, _, by rw [List.size_toArray]; exact rv.length.symm, Draws.list hh it a hit its.toArray, fun i x => ⟨x, pl.isList⟩, fun i h' x => x.1, fun i u hu => ?_⟩
    have hu' : its[i]? = some u := by simpa using hu
    obtain ⟨x, hx, r⟩ := vals_back rv hu'
    exact ⟨x, hx, r⟩
  | tup a xs =>
    obtain ⟨its, rv, pl, hz⟩ := I.tuple hin
    refine ⟨its.toArray.size, _, _, by rw [List.size_toArray]; exact rv.length.symm, Draws.tuple hh it a hit its.toArray, fun i x => ⟨x, pl⟩, fun i h' x => x.1, fun i u hu => ?_⟩
    have hu' : its[i]? = some u := by simpa using hu
    obtain ⟨x, hx, r⟩ := vals_back rv hu'
    exact ⟨x, hx, r⟩
  | str x t =>
    refine ⟨x.cps.size, _, _, by simp [vals], Draws.text hh it x t, fun i x => x, fun i h' x => x, fun i u hu => ?_⟩
    obtain ⟨c, u', hc, rfl⟩ := hu
    have hc' : x.cps.toList[i]? = some c := by simpa using hc
    exact ⟨.str ⟨#[c]⟩, by rw [vals, List.getElem?_map, hc']; rfl, u', rfl⟩
end Src

/-- an item's tree -/
theorem Reps.item {w : World} {K : PySem.W.Frag} {H : Hp} : ∀ {xs : List V} {ds : List D} {i : Nat} {x : V}, Reps w K H [] xs ds → xs[i]? = some x → ∃ d, ds[i]? = some d ∧ Rep w K H [] x d
  | _, [], i, x, r, h => by obtain ⟨_, rfl⟩ := r.nil_inv; simp at h
  | _, d :: ds, i, x, r, h => by
    obtain ⟨v, vr, rfl, r1, r2⟩ := r.cons0
    cases i with
    | zero => simp at h; subst h; exact ⟨d, rfl, r1⟩
    | succ i =>
      obtain ⟨d', h1, h2⟩ := Reps.item (i := i) r2 (by simpa using h)
      exact ⟨d', by simpa using h1, h2⟩
/-- what a frozen tree is walked as -/
inductive SrcOf (w : World) (K : PySem.W.Frag) (H : Hp) : Value → D → Src → List D → Prop
  | lst {a xs ds} : FrL K H a xs → Reps w K H [] xs ds → SrcOf w K H (.ref a) (.lst false ds) (.lst a xs) ds
  | tup {a xs ds} : SqT K H a xs → Reps w K H [] xs ds → SrcOf w K H (.ref a) (.tup ds) (.tup a xs) ds
  | str {x t} : SrcOf w K H (.str x t) (.str x) (.str x t) (x.cps.toList.map fun c => .str ⟨#[c]⟩)
/-- the items of a list, a tuple, a text -/
def seqD : D → Option (List D)
  | .lst _ ds => some ds
  | .tup ds => some ds
  | .str x => some (x.cps.toList.map fun c => .str ⟨#[c]⟩)
  | _ => none
section
variable {w : World} {K : PySem.W.Frag} {H H' : Hp} {v : V} {u : Value} {d : D} {ds : List D} {S : Src}
theorem Rep.src (r : Rep w K H [] v d) (rv : RelV v u) (h : seqD d = some ds) : ∃ S, SrcOf w K H u d S ds := by
  cases r with
  | tup h1 h2 => cases h; cases rv; exact ⟨_, .tup h1 h2⟩
  | lstF h1 h2 => cases h; cases rv; exact ⟨_, .lst h1 h2⟩
  | str x => cases h; obtain ⟨t, rfl⟩ := rv; exact ⟨_, .str⟩
  | _ => cases h
theorem SrcOf.value (x : SrcOf w K H u d S ds) : u = S.value := by cases x <;> rfl
theorem SrcOf.sIn (x : SrcOf w K H u d S ds) : S.In K H := by
  cases x with
  | lst h _ => exact h
  | tup h _ => exact h
  | str => trivial
theorem Src.In.mono {S : Src} (x : S.In K H) (hk : ∀ a o, H a = some o → Perm o → H' a = some o) : S.In K H' := by
  cases S with
  | lst a xs => exact FrL.mono x hk
  | tup a xs => exact SqT.mono x hk
  | str _ _ => trivial
theorem SrcOf.mono (x : SrcOf w K H u d S ds) (hk : ∀ a o, H a = some o → Perm o → H' a = some o) : SrcOf w K H' u d S ds := by
  cases x with
  | lst h r => exact .lst (h.mono hk) (r.mono hk _ _ _ fun _ z _ _ => absurd z List.not_mem_nil)
  | tup h r => exact .tup (SqT.mono h hk) (r.mono hk _ _ _ fun _ z _ _ => absurd z List.not_mem_nil)
  | str => exact .str
theorem SrcOf.len (x : SrcOf w K H u d S ds) : S.vals.length = ds.length := by
  cases x with
  | lst _ r => exact r.length
  | tup _ r => exact r.length
  | str => simp [Src.vals]
theorem SrcOf.item (x : SrcOf w K H u d S ds) {i : Nat} {y : V} (h : S.vals[i]? = some y) : ∃ e, ds[i]? = some e ∧ Rep w K H [] y e := by
  cases x with
  | lst _ r => exact r.item h
  | tup _ r => exact r.item h
  | str =>
    rw [Src.vals, List.getElem?_map] at h
    rw [List.getElem?_map]
    obtain ⟨c, hc, rfl⟩ := Option.map_eq_some_iff.mp h
    exact ⟨_, by rw [hc]; rfl, .str _⟩
end
section
variable {X : Cx} {pins : List (Addr × Obj)} {σ : L2.St} {H : Hp} {s : Shared}
/-- a source stands below a new cell -/
theorem Src.In.off (I : Inv X pins σ H s) {S : Src} (x : S.In X.K H) {c : Addr} (hc : s.heap.objs.size ≤ c) : S.Off c := by
  cases S with
  | lst a xs =>
    obtain ⟨its, rv, pl, hz⟩ := I.list (FrL.sq x)
    exact fun z => Nat.lt_irrefl _ (Nat.lt_of_lt_of_le pl.lt (by rw [z]; exact hc))
  | tup a xs =>
    obtain ⟨its, rv, ⟨o, ho, _⟩, hz⟩ := I.tuple x
    exact fun z => Nat.lt_irrefl _ (Nat.lt_of_lt_of_le (Heap.lt_size ho) (by rw [z]; exact hc))
  | str _ _ => trivial
/-- .. begins -/
theorem Src.begins (I : Inv X pins σ H s) (S : Src) (x : S.In X.K H) : ∃ o B, Begins S.value o B ∧ B s.heap ∧ ∀ (h' : Heap) (it : Addr), h'.get? it = some o → S.iter it 0 h' := by
  cases S with
  | lst a xs =>
    obtain ⟨its, rv, pl, hz⟩ := I.list (FrL.sq x)
    exact ⟨_, _, begins_list a its.toArray, pl.isList, fun h' it e => ⟨_, e, rfl, rfl⟩⟩
  | tup a xs =>
    obtain ⟨its, rv, pl, hz⟩ := I.tuple x
    exact ⟨_, _, begins_tuple a its.toArray, pl, fun h' it e => ⟨_, e, rfl, rfl⟩⟩
  | str y t => exact ⟨_, _, begins_text y t, trivial, fun h' it e => ⟨_, e, rfl, rfl⟩⟩
end

/-! ### enumerate -/
def itEn (k0 : Int) (e it : Addr) (S : Src) (i : Nat) (h : Heap) : Prop := (∃ old, IsEnum h e it (k0 + (i : Int)) old) ∧ S.iter it i h
def vsEn (k0 : Int) (S : Src) (i : Nat) (xs : List V) : Prop := ∃ x, S.vals[i]? = some x ∧ xs = [.int (k0 + (i : Int)), x]
theorem turn_en {P : Program} {w : World} {K : PySem.W.Frag} {elts : List Expr} {kk : Nat} {tpos : Pos} (k0 : Int) {e it : Addr} (S : Src) (hne : e ≠ it) (h1 : S.Off it) (h2 : S.Off e) :
    Turn P w K (.Tuple elts kk tpos) (ItW S.vals.length (fun H => S.In K H) (vsEn k0 S)) [e, it] e (itEn k0 e it S) := by
  refine turn_wk (by simp) (fun i h ⟨⟨old, x⟩, y⟩ b hb => ?_) (fun i h h' ⟨⟨old, x⟩, y⟩ k => ⟨⟨old, k e (by simp) _ x⟩, S.iter_keep y fun o q => k it (by simp) o q⟩) (fun A i s Q E ⟨⟨old, x⟩, y⟩ q => wpAny_pyIter_enum x q) fun X pins s σ H hP hw hK hc I hin => ?_
  · have e' : b = e ∨ b = it := by simpa using hb
    rcases e' with z | z
    · rw [z]; exact ⟨_, x, fun v q => nomatch q⟩
    · rw [z]; exact S.iter_obj y
  · subst hP hw hK
    obtain ⟨n, P, St, hn, D, d1, d2, d3⟩ := S.draws I (A := X.A.in1) (I.ok.hd hc) hin h1
    rw [← hn]
    refine ⟨_, _, _, _, _, WalksT.enumFrom k0 D e hne (Src.off_cells hne h2) Src.mem_cells, fun b hb => hb, fun i ⟨x, y⟩ => ⟨x, d1 i y⟩, fun i h' ⟨x, y⟩ => ⟨x, d2 i h' y⟩, ?_⟩
    rintro i vs _ ⟨t, u, hP, rfl⟩
    obtain ⟨x, hx, r⟩ := d3 i u hP
    exact ⟨_, ⟨x, hx, rfl⟩, .cons ⟨t, rfl⟩ (.cons r .nil), by show 2 ≤ sizeLine; decide⟩
/-- (k0, a), (k0 + 1, b), .. -/
def enumD (k0 : Int) (ds : List D) : List D := ds.zipIdx.map fun p => .tup [.int (k0 + (p.2 : Int)), p.1]
def zipD (as bs : List D) : List D := List.zipWith (fun a b => .tup [a, b]) as bs
section
variable {w : World} {K : PySem.W.Frag} {G : Fps} {H : Hp} {u u2 : Value} {d d2 : D} {S S2 : Src} {ds ds2 : List D}
theorem res_pair {H2 H3 : Hp} {T : Addr} {x y : V} {a b : D} (hT : H2 T = none) (e : H3 = upd H2 T (.tup [x, y])) (ra : Rep w K H2 [] x a) (rb : Rep w K H2 [] y b) : Same H2 H3 ∧ Rep w K H3 [] (.ref T) (.tup [a, b]) := by
  subst e
  have s := same_upd (o := .tup [x, y]) hT
  exact ⟨s, .tup (.inl (.inl upd_same)) (Reps.grow (Reps.cons (fp := []) (gp := []) ra (Reps.cons (fp := []) (gp := []) rb .nil)) s)⟩
theorem itd_en (k0 : Int) (x : SrcOf w K H u d S ds) : ItD w K G H (ItW S.vals.length (fun H => S.In K H) (vsEn k0 S)) (enumD k0 ds) := fun H2 pm => by
  have x2 := x.mono pm
  have hl : (enumD k0 ds).length = S.vals.length := by rw [x.len]; simp [enumD]
  refine ⟨fun i q hq => ?_, by rw [hl]; exact ⟨rfl, x2.sIn⟩⟩
  have hi : i < S.vals.length := by rw [← hl]; exact (List.getElem?_eq_some_iff.mp hq).1
  refine ⟨⟨hi, x2.sIn⟩, fun v H3 ⟨T, xs, ev, hT, eH, y, hy, exs⟩ => ?_⟩
  subst ev exs
  obtain ⟨dd, hd, rd⟩ := x2.item hy
  have eq : q = .tup [.int (k0 + (i : Int)), dd] := by
    unfold enumD at hq
    rw [List.getElem?_map, List.getElem?_zipIdx, hd] at hq
    simpa using hq.symm
  subst eq
  exact res_pair hT eH (.int _) rd
end
end KW
/-! KWm: enumerate and zip are made; the rules of walks. -/
namespace KW
open PySem PySem.Spec L2
open PyProof.Rows hiding St

set_option maxHeartbeats 1000000 in
theorem meets_enum1 {v : Value} {o : Obj} {B : Heap → Prop} (Bg : Begins v o B) :
    Meets (Builtin.«enumerate.__new__» ⟨[.type "enumerate", v], []⟩) (fun _ R s => B s.heap ∧
      R (.ok (.ret (.ref (s.heap.push o).objs.size))) { s with heap := (s.heap.push o).push { cls := .type "enumerate", data := .fields #[.none, .bool false, .ref s.heap.objs.size, rawInt 0, .none, .none] } }) :=
  .of_wp fun prog w A R s h => by
    obtain ⟨hp, g, d, tk, os⟩ := s; obtain ⟨h1, h⟩ := h
    have hsub := sub_enumerate
    have q1 : ∀ {A' : Around} {E : Value → Shared → Prop} {Q : Value → Shared → Prop}, Q (.ref hp.objs.size) ⟨hp.push o, g, d, tk, os⟩ → wpAny (model prog w) A' (pyIter v) Q E ⟨hp, g, d, tk, os⟩ :=
      fun q => Bg.iter prog w _ _ ⟨hp, g, d, tk, os⟩ _ h1 q
    wp_walk using q1
    refine wpAny_stack_any fun st => wpAny_pure ?_
    split
    · rename_i c _ _ _ _ _
      cases (c == Value.type "enumerate")
      · wp_walk using q1
        exact ⟨_, rfl, h⟩
      · wp_walk using q1
        exact ⟨_, rfl, h⟩
    · wp_walk using q1
      exact ⟨_, rfl, h⟩
abbrev kzT (h : Heap) (o1 o2 : Obj) : Heap := ((h.push o1).push o2).push { cls := .type "tuple", data := .seq #[.ref h.objs.size, .ref (h.push o1).objs.size] }
abbrev kzO (h : Heap) (o1 o2 : Obj) : Heap := (kzT h o1 o2).push { cls := .type "tuple", data := .seq #[.none, .none] }
abbrev kzZ (b : Bool) (h : Heap) (o1 o2 : Obj) : Heap := (kzO h o1 o2).push { cls := .type "zip", data := .fields #[.none, .bool false, .bool b, .ref ((h.push o1).push o2).objs.size, .ref (kzT h o1 o2).objs.size] }
set_option maxHeartbeats 1000000 in
theorem meets_zipK {v1 v2 : Value} {o1 o2 : Obj} {H1 H2 : Heap → Prop} (b : Bool) (B1 : Begins v1 o1 H1) (B2 : Begins v2 o2 H2) :
    Meets (Builtin.«zip.__new__» ⟨[.type "zip", v1, v2], [(Str.ofString "strict", .bool b)]⟩) (fun _ R s => (H1 s.heap ∧ H2 s.heap) ∧
      R (.ok (.ret (.ref (kzO s.heap o1 o2).objs.size))) { s with heap := kzZ b s.heap o1 o2 }) :=
  .of_wp fun prog w A R s h => by
    obtain ⟨hp, g, d, tk, os⟩ := s; obtain ⟨⟨h1, h2⟩, h⟩ := h
    have hsub := sub_zip
    have q1 : ∀ {A' : Around} {E : Value → Shared → Prop} {Q : Value → Shared → Prop}, Q (.ref hp.objs.size) ⟨(hp.push o1), g, d, tk, os⟩ → wpAny (model prog w) A' (pyIter v1) Q E ⟨hp, g, d, tk, os⟩ :=
      fun q => B1.iter prog w _ _ ⟨hp, g, d, tk, os⟩ _ (B1.keeps _ _ h1 fun b o' e => e) q
    have q2 : ∀ {A' : Around} {E : Value → Shared → Prop} {Q : Value → Shared → Prop}, Q (.ref (hp.push o1).objs.size) ⟨((hp.push o1).push o2), g, d, tk, os⟩ → wpAny (model prog w) A' (pyIter v2) Q E ⟨(hp.push o1), g, d, tk, os⟩ :=
      fun q => B2.iter prog w _ _ ⟨(hp.push o1), g, d, tk, os⟩ _ (B2.keeps _ _ h2 fun b o' e => (Heap.get?_push_of_some _ e)) q
    have e2 : (Str.ofString "strict" != ("strict" : Str)) = false := by decide +kernel
    wp_walk using q1, q2
    exact ⟨_, rfl, h⟩

abbrev IsZipB (b : Bool) (h : Heap) (z TI TO : Addr) (f0 : Value) : Prop :=
  h.get? z = some { cls := .type "zip", dict := none, data := .fields #[f0, .bool false, .bool b, .ref TI, .ref TO], slots := #[] }
theorem zipK_type (a b v : Value) : checkTypeCall "zip" ⟨[a, b], [(Str.ofString "strict", v)]⟩ = pure () := by kernel_rfl
theorem zipK_new (a b v : Value) : checkBuiltinCall "zip.__new__" ⟨[.type "zip", a, b], [(Str.ofString "strict", v)]⟩ = pure () := by kernel_rfl
theorem zipK_init (obj a b v : Value) : argsOk "object.__init__" ⟨[obj, a, b], [(Str.ofString "strict", v)]⟩ := by unfold argsOk; kernel_rfl
section
variable {prog : Program} {w : World} {A : Around} {E : Value → Shared → Prop} {s : Shared}
theorem call_enum1 {v : Value} {o : Obj} {B : Heap → Prop} {Q : Value → Shared → Prop} (Bg : Begins v o B) (h1 : B s.heap)
    (h : ∀ h', IsEnum h' (s.heap.objs.size + 1) s.heap.objs.size 0 .none → h'.get? s.heap.objs.size = some o → (∀ b o, s.heap.get? b = some o → h'.get? b = some o) → Q (.ref (s.heap.objs.size + 1)) { s with heap := h' }) :
    wpAny (model prog w) A (call (.type "enumerate") [v]) Q E s := by
  refine callType_new F.called_enumerate (by decide) (F.typeCall_enumerate_1 _) (F.newCall_enumerate_1 _) (fun obj => F.args_object_init_2 obj _) F.entry_enumerate_new (meets_enum1 Bg) ⟨h1, ?_⟩
  have hz : (s.heap.push o).objs.size = s.heap.objs.size + 1 := Heap.size_push ..
  have he := Heap.get?_push_size (s.heap.push o) (o := { cls := .type "enumerate", data := .fields #[.none, .bool false, .ref s.heap.objs.size, rawInt 0, .none, .none] }) rfl
  show _ ∧ _
  rw [hz] at he ⊢
  exact ⟨⟨_, he, rfl⟩, h _ he (Heap.get?_push_of_some _ (Heap.get?_push_size _ Bg.free)) fun b o x => Heap.get?_push_of_some _ (Heap.get?_push_of_some _ x)⟩
theorem call_zipK {v1 v2 : Value} {o1 o2 : Obj} {H1 H2 : Heap → Prop} {b : Bool} {Q : Value → Shared → Prop} (B1 : Begins v1 o1 H1) (B2 : Begins v2 o2 H2) (h1 : H1 s.heap) (h2 : H2 s.heap)
    (h : ∀ h', IsZipB b h' (s.heap.objs.size + 4) (s.heap.objs.size + 2) (s.heap.objs.size + 3) .none → IsTupOf2 h' (s.heap.objs.size + 2) (.ref s.heap.objs.size) (.ref (s.heap.objs.size + 1)) →
      IsTupOf2 h' (s.heap.objs.size + 3) .none .none → h'.get? s.heap.objs.size = some o1 → h'.get? (s.heap.objs.size + 1) = some o2 → (∀ c o, s.heap.get? c = some o → h'.get? c = some o) → Q (.ref (s.heap.objs.size + 4)) { s with heap := h' }) :
    wpAny (model prog w) A (call (.type "zip") [v1, v2] [(Str.ofString "strict", .bool b)]) Q E s := by
  refine callType_newKw F.called_zip (by decide) (zipK_type _ _ _) (zipK_new _ _ _) (fun obj => zipK_init obj _ _ _) F.entry_zip_new (meets_zipK b B1 B2) ⟨⟨h1, h2⟩, ?_⟩
  have z1 : (s.heap.push o1).objs.size = s.heap.objs.size + 1 := by rw [Heap.size_push]
  have z2 : ((s.heap.push o1).push o2).objs.size = s.heap.objs.size + 2 := by rw [Heap.size_push, z1]
  have zT : (kzT s.heap o1 o2).objs.size = s.heap.objs.size + 3 := by rw [Heap.size_push, z2]
  have zO : (kzO s.heap o1 o2).objs.size = s.heap.objs.size + 4 := by rw [Heap.size_push, zT]
  have gZ : (kzZ b s.heap o1 o2).get? (kzO s.heap o1 o2).objs.size = some { cls := .type "zip", data := .fields #[.none, .bool false, .bool b, .ref ((s.heap.push o1).push o2).objs.size, .ref (kzT s.heap o1 o2).objs.size] } := Heap.get?_push_size _ rfl
  have gO : (kzZ b s.heap o1 o2).get? (kzT s.heap o1 o2).objs.size = some { cls := .type "tuple", data := .seq #[.none, .none] } := Heap.get?_push_of_some _ (Heap.get?_push_size _ rfl)
  have gT : (kzZ b s.heap o1 o2).get? ((s.heap.push o1).push o2).objs.size = some { cls := .type "tuple", data := .seq #[.ref s.heap.objs.size, .ref (s.heap.push o1).objs.size] } := Heap.get?_push_of_some _ (Heap.get?_push_of_some _ (Heap.get?_push_size _ rfl))
  have g1 : (kzZ b s.heap o1 o2).get? s.heap.objs.size = some o1 := Heap.get?_push_of_some _ (Heap.get?_push_of_some _ (Heap.get?_push_of_some _ (Heap.get?_push_of_some _ (Heap.get?_push_size _ B1.free))))
  have g2 : (kzZ b s.heap o1 o2).get? (s.heap.push o1).objs.size = some o2 := Heap.get?_push_of_some _ (Heap.get?_push_of_some _ (Heap.get?_push_of_some _ (Heap.get?_push_size _ B2.free)))
  rw [zO, zT, z2] at gZ
  rw [zT] at gO
  rw [z2, z1] at gT
  rw [z1] at g2
  show _ ∧ _
  rw [zO]
  exact ⟨⟨_, gZ, rfl⟩, h _ gZ gT gO g1 g2 fun c o x => Heap.get?_push_of_some _ (Heap.get?_push_of_some _ (Heap.get?_push_of_some _ (Heap.get?_push_of_some _ (Heap.get?_push_of_some _ x))))⟩
end

/-! ### zip, not strict -/
def itZp (b : Bool) (z TI TO i1 i2 : Addr) (S1 S2 : Src) (i : Nat) (h : Heap) : Prop :=
  IsZipB b h z TI TO .none ∧ IsTupOf2 h TI (.ref i1) (.ref i2) ∧ (∃ a1 a2, IsTupOf2 h TO a1 a2) ∧ S1.iter i1 i h ∧ S2.iter i2 i h
def vsZp (S1 S2 : Src) (i : Nat) (xs : List V) : Prop := ∃ x y, S1.vals[i]? = some x ∧ S2.vals[i]? = some y ∧ xs = [x, y]
theorem src_sep {S : Src} {it c : Addr} (h1 : c ≠ it) (h2 : S.Off c) : c ∉ S.cells it := Src.off_cells h1 h2
structure ZpApart (z TI TO i1 i2 : Addr) (S1 S2 : Src) : Prop where
  TIz : TI ≠ z
  TOz : TO ≠ z
  TITO : TI ≠ TO
  TIi1 : TI ≠ i1
  TIi2 : TI ≠ i2
  zi1 : z ≠ i1
  zi2 : z ≠ i2
  TOi1 : TO ≠ i1
  TOi2 : TO ≠ i2
  i12 : i1 ≠ i2
  o1 : ∀ c ∈ [z, TI, TO, i1, i2], S1.Off c
  o2 : ∀ c ∈ [z, TI, TO, i1, i2], S2.Off c
theorem ZpApart.sep {z TI TO i1 i2 : Addr} {S1 S2 : Src} (D : ZpApart z TI TO i1 i2 S1 S2) : ZipSep2 z TI TO i1 i2 (S1.cells i1) (S2.cells i2) where
  TIz := D.TIz
  TOz := D.TOz
  TITO := D.TITO
  TIi1 := D.TIi1
  mem1 := Src.mem_cells
  zf1 := src_sep D.zi1 (D.o1 _ (by simp))
  Tf1 := src_sep D.TOi1 (D.o1 _ (by simp))
  TIi2 := D.TIi2
  mem2 := Src.mem_cells
  zf2 := src_sep D.zi2 (D.o2 _ (by simp))
  Tf2 := src_sep D.TOi2 (D.o2 _ (by simp))
  sep1_2 := src_sep D.i12 (D.o2 _ (by simp))
  sep2_1 := src_sep D.i12.symm (D.o1 _ (by simp))
theorem zp_obj {b : Bool} {z TI TO i1 i2 : Addr} {S1 S2 : Src} {i : Nat} {h : Heap} (x : itZp b z TI TO i1 i2 S1 S2 i h) (c : Addr) (hc : c ∈ [z, TI, TO, i1, i2]) : ∃ o, h.get? c = some o ∧ ∀ v, o.data ≠ .cell v := by
  obtain ⟨h1, h2, ⟨a1, a2, h3⟩, h4, h5⟩ := x
  have e' : c = z ∨ c = TI ∨ c = TO ∨ c = i1 ∨ c = i2 := by simpa using hc
  rcases e' with q | q | q | q | q
  · rw [q]; exact ⟨_, h1, fun v q => nomatch q⟩
  · rw [q]; exact ⟨_, h2, fun v q => nomatch q⟩
  · rw [q]; exact ⟨_, h3, fun v q => nomatch q⟩
  · rw [q]; exact S1.iter_obj h4
  · rw [q]; exact S2.iter_obj h5
theorem zp_keep {b : Bool} {z TI TO i1 i2 : Addr} {S1 S2 : Src} {i : Nat} {h h' : Heap} (x : itZp b z TI TO i1 i2 S1 S2 i h) (k : ∀ c ∈ [z, TI, TO, i1, i2], ∀ o, h.get? c = some o → h'.get? c = some o) : itZp b z TI TO i1 i2 S1 S2 i h' := by
  obtain ⟨h1, h2, ⟨a1, a2, h3⟩, h4, h5⟩ := x
  exact ⟨k z (by simp) _ h1, k TI (by simp) _ h2, ⟨a1, a2, k TO (by simp) _ h3⟩, S1.iter_keep h4 fun o q => k i1 (by simp) o q, S2.iter_keep h5 fun o q => k i2 (by simp) o q⟩
theorem turn_zp {P : Program} {w : World} {K : PySem.W.Frag} {elts : List Expr} {kk : Nat} {tpos : Pos} {z TI TO i1 i2 : Addr} (S1 S2 : Src) (D : ZpApart z TI TO i1 i2 S1 S2) :
    Turn P w K (.Tuple elts kk tpos) (ItW (min S1.vals.length S2.vals.length) (fun H => S1.In K H ∧ S2.In K H) (vsZp S1 S2)) [z, TI, TO, i1, i2] z (itZp false z TI TO i1 i2 S1 S2) := by
  refine turn_wk (by simp) (fun i h x c hc => zp_obj x c hc) (fun i h h' x k => zp_keep x k) (fun A i s Q E x q => wpAny_pyIter_zip x.1 q) fun X pins s σ H hP hw hK hc I ⟨hin1, hin2⟩ => ?_
  subst hP hw hK
  obtain ⟨n1, P1, St1, hn1, D1, d1, d2, d3⟩ := S1.draws I (A := X.A.in1) (I.ok.hd hc) hin1 (D.o1 i1 (by simp))
  obtain ⟨n2, P2, St2, hn2, D2, e1, e2, e3⟩ := S2.draws I (A := X.A.in1) (I.ok.hd hc) hin2 (D.o2 i2 (by simp))
  rw [← hn1, ← hn2]
  refine ⟨_, _, _, _, _, WalksT.zipD2 D.sep D1 D2, fun c hc => ?_, fun i ⟨a, b, c, x, y⟩ => ⟨a, b, c, d1 i x, e1 i y⟩, fun i h' ⟨a, b, c, x, y⟩ => ⟨a, b, c, d2 i h' x, e2 i h' y⟩, ?_⟩
  · have hc' : c = z ∨ c = TO ∨ c = i1 ∨ c = i2 := by simpa using hc
    rcases hc' with q | q | q | q <;> simp [q]
  · rintro i vs _ ⟨u1, u2, hP1, hP2, rfl⟩
    obtain ⟨x, hx, r⟩ := d3 i u1 hP1
    obtain ⟨y, hy, r2⟩ := e3 i u2 hP2
    exact ⟨_, ⟨x, y, hx, hy, rfl⟩, .cons r (.cons r2 .nil), by show 2 ≤ sizeLine; decide⟩
theorem itd_zp {w : World} {K : PySem.W.Frag} {G : Fps} {H : Hp} {u u2 : Value} {d d2 : D} {S S2 : Src} {ds ds2 : List D} (x : SrcOf w K H u d S ds) (y : SrcOf w K H u2 d2 S2 ds2) :
    ItD w K G H (ItW (min S.vals.length S2.vals.length) (fun H => S.In K H ∧ S2.In K H) (vsZp S S2)) (zipD ds ds2) := fun H2 pm => by
  have x2 := x.mono pm
  have y2 := y.mono pm
  have hl : (zipD ds ds2).length = min S.vals.length S2.vals.length := by rw [x.len, y.len]; simp [zipD]
  refine ⟨fun i q hq => ?_, by rw [hl]; exact ⟨rfl, x2.sIn, y2.sIn⟩⟩
  have hi : i < min S.vals.length S2.vals.length := by rw [← hl]; exact (List.getElem?_eq_some_iff.mp hq).1
  refine ⟨⟨hi, x2.sIn, y2.sIn⟩, fun v H3 ⟨T, xs, ev, hT, eH, a, b, ha, hb, exs⟩ => ?_⟩
  subst ev exs
  obtain ⟨da, hda, ra⟩ := x2.item ha
  obtain ⟨db, hdb, rb⟩ := y2.item hb
  have eq : q = .tup [da, db] := by
    unfold zipD at hq
    rw [List.getElem?_zipWith, hda, hdb] at hq
    simpa using hq.symm
  subst eq
  exact res_pair hT eH ra rb

/-! ### the rules -/
theorem ty_kw {M : Model} {A : Around} {E : Value → Shared → Prop} {s : Shared} {env : _root_.PySem.Env} {pos : Pos} {T : String} {e : Expr} {es : List Expr} {kws : List Keyword} {ks : List Str} {Q : Value → Shared → Prop}
    (h : wpAny M A (spliced (backTo pos (starEach (e :: es) env))) (fun vs s1 => wpAny M A (evalAll ((backToKw pos (keywordEach kws env)).map (·.2))) (fun ws s2 => wpAny M A (call (.type T) vs (ks.zip ws)) Q E s2) E s1) E s)
    (he : backTo pos (starEach (e :: es) env) = (false, eval e env) :: backTo pos (starEach es env)) (hpl : (backTo pos (starEach (e :: es) env)).any (·.1) = false)
    (hall : (backToKw pos (keywordEach kws env)).all (·.1.isSome) = true) (hnone : (backToKw pos (keywordEach kws env)).any (·.1.isNone) = false) (hks : (backToKw pos (keywordEach kws env)).filterMap (·.1) = ks) :
    wpAny M A (callWith pos (.type T) [] (backTo pos (starEach (e :: es) env)) (backToKw pos (keywordEach kws env))) Q E s := by
  unfold callWith
  subst hks
  refine wpAny_bind (wpAny_holding ?_)
  rw [he] at h ⊢
  refine wpAny_mono (PyProof.Rows.evalArgs_kwB hall (Q := fun a s2 => wpAny M A (call (.type T) a.pos a.kw) Q E s2) h) (fun a s2 h2 => wpAny_bind (wpAny_standAt ?_)) fun _ _ x => x
  rw [he] at hpl
  simp only [hpl, hnone, Bool.or_false]
  refine wpAny_bind (wpAny_pure ?_)
  exact wpAny_bind (wpAny_mono h2 (fun r s3 hr => wpAny_bind (wpAny_holding (wpAny_point (wpAny_pure hr)))) fun _ _ x => x)
section
variable {X : Cx} {p : Option V} {tg e e2 : Expr} {elts : List Expr} {kk : Nat} {te te2 : TDE} {t : TDZ} {p' pos tpos kp kq : Pos}
/-- range(..) -/
def dRng1 (t : TDZ) : TDI := fun ρ Q => t ρ fun ds ρ1 => ∃ j : Int, ds = [.int j] ∧ -(2 ^ 62) ≤ j ∧ j < 2 ^ 62 ∧ Q ((List.range j.toNat).map fun i : Nat => .int (0 + (i : Int))) ρ1
def dRng2 (t : TDZ) : TDI := fun ρ Q => t ρ fun ds ρ1 => ∃ i j : Int, ds = [.int i, .int j] ∧ (-(2 ^ 62) ≤ i ∧ i < 2 ^ 62 ∧ -(2 ^ 62) ≤ j ∧ j < 2 ^ 62) ∧ Q ((List.range (j - i).toNat).map fun n : Nat => .int (i + (n : Int))) ρ1
def dRng3 (t : TDZ) : TDI := fun ρ Q => t ρ fun ds ρ1 => ∃ (i j c : Int) (n : Nat), ds = [.int i, .int j, .int c] ∧ RgC i j c n ∧ Q ((List.range n).map fun k : Nat => .int (i + (k : Int) * c)) ρ1
theorem range_get {n i : Nat} {f : Nat → D} {d : D} (h : ((List.range n).map f)[i]? = some d) : i < n ∧ d = f i := by
  rw [List.getElem?_map] at h
  obtain ⟨j, hj, e⟩ := Option.map_eq_some_iff.mp h
  obtain ⟨h1, h2⟩ := List.getElem?_eq_some_iff.mp hj
  rw [List.getElem_range] at h2
  subst h2
  exact ⟨by simpa using h1, e.symm⟩
theorem itd_rng {w : World} {K : PySem.W.Frag} {G : Fps} {H : Hp} (lo : Int) (n : Nat) : ItD w K G H (Itr lo n) ((List.range n).map fun i : Nat => .int (lo + (i : Int))) := fun H2 pm => by
  refine ⟨fun i d hd => ?_, by simp [Itr]⟩
  obtain ⟨h1, rfl⟩ := range_get hd
  exact ⟨h1, fun x H3 ⟨e3, ex⟩ => by subst e3 ex; exact ⟨fun _ _ z => z, .int _⟩⟩
theorem itd_rngC {w : World} {K : PySem.W.Frag} {G : Fps} {H : Hp} (lo c : Int) (n : Nat) : ItD w K G H (Itc lo c n) ((List.range n).map fun i : Nat => .int (lo + (i : Int) * c)) := fun H2 pm => by
  refine ⟨fun i d hd => ?_, by simp [Itc]⟩
  obtain ⟨h1, rfl⟩ := range_get hd
  exact ⟨h1, fun x H3 ⟨e3, ex⟩ => by subst e3 ex; exact ⟨fun _ _ z => z, .int _⟩⟩
theorem Reps.int1 {w : World} {K : PySem.W.Frag} {H : Hp} {vs : List V} {j : Int} (r : Reps w K H [] vs [.int j]) : vs = [.int j] := by
  obtain ⟨v, vr, rfl, r1, r2⟩ := r.cons0
  obtain ⟨_, rfl⟩ := r2.nil_inv
  cases r1; rfl
theorem Reps.ints {w : World} {K : PySem.W.Frag} {H : Hp} : ∀ {js : List Int} {vs : List V}, Reps w K H [] vs (js.map D.int) → vs = js.map V.int
  | [], _, r => r.nil_inv.2
  | j :: js, _, r => by
    obtain ⟨v, vr, rfl, r1, r2⟩ := r.cons0
    cases r1
    rw [Reps.ints r2]; rfl
theorem pi_rng1 (hg : Gl X "range") (hm : X.mg "range" = none) (ha : PA X [e] (tF X.w X.K p t)) (hs : starEach [e] X.env = [(false, eval e X.env)] := by rfl) : PI X tg (.Call (.Name "range" p') [e] [] pos) (tI X.w X.K p (dRng1 t)) := by
  refine PI.imp (pi_range1 hg hm ha hs) fun σ H R ⟨ρ, G, P, F, k, q⟩ => ⟨ρ, G, _, F, k, fun ds ρ1 vs H1 G1 h1 F1 e1 r1 => ?_⟩
  obtain ⟨j, rfl, a, b, pp⟩ := h1
  exact ⟨j, r1.int1, a, b, q _ _ _ H1 G1 pp F1 e1 (itd_rng 0 j.toNat)⟩
theorem pi_rng2 (hg : Gl X "range") (hm : X.mg "range" = none) (ha : PA X [e, e2] (tF X.w X.K p t)) (hs : starEach [e, e2] X.env = [(false, eval e X.env), (false, eval e2 X.env)] := by rfl) (hs2 : starEach [e2] X.env = [(false, eval e2 X.env)] := by rfl) :
    PI X tg (.Call (.Name "range" p') [e, e2] [] pos) (tI X.w X.K p (dRng2 t)) := by
  refine PI.imp (pi_range2 hg hm ha hs hs2) fun σ H R ⟨ρ, G, P, F, k, q⟩ => ⟨ρ, G, _, F, k, fun ds ρ1 vs H1 G1 h1 F1 e1 r1 => ?_⟩
  obtain ⟨i, j, rfl, a, pp⟩ := h1
  exact ⟨i, j, Reps.ints (js := [i, j]) r1, a, q _ _ _ H1 G1 pp F1 e1 (itd_rng i (j - i).toNat)⟩
theorem pi_rng3 {e3 : Expr} (hg : Gl X "range") (hm : X.mg "range" = none) (ha : PA X [e, e2, e3] (tF X.w X.K p t)) (hs : starEach [e, e2, e3] X.env = (false, eval e X.env) :: starEach [e2, e3] X.env := by rfl) (hpl : (backTo pos (starEach [e2, e3] X.env)).any (·.1) = false := by rfl) :
    PI X tg (.Call (.Name "range" p') [e, e2, e3] [] pos) (tI X.w X.K p (dRng3 t)) := by
  refine PI.imp (pi_range3 hg hm ha hs hpl) fun σ H R ⟨ρ, G, P, F, k, q⟩ => ⟨ρ, G, _, F, k, fun ds ρ1 vs H1 G1 h1 F1 e1 r1 => ?_⟩
  obtain ⟨i, j, c, n, rfl, a, pp⟩ := h1
  exact ⟨i, j, c, n, Reps.ints (js := [i, j, c]) r1, a, q _ _ _ H1 G1 pp F1 e1 (itd_rngC i c n)⟩
/-- enumerate(e) -/
def dEn1 (t : TDZ) : TDI := fun ρ Q => t ρ fun ds ρ1 => ∃ d, ds = [d] ∧ ∃ es, seqD d = some es ∧ Q (enumD 0 es) ρ1
theorem pi_en1 (hg : Gl X "enumerate") (hm : X.mg "enumerate" = none) (ha : PA X [e] (tF X.w X.K p t)) (hs : starEach [e] X.env = [(false, eval e X.env)] := by rfl) :
    PI X (.Tuple elts kk tpos) (.Call (.Name "enumerate" p') [e] [] pos) (tI X.w X.K p (dEn1 t)) := by
  refine ⟨fun pins s σ H R I ⟨ρ, G, P, F, k, q⟩ => ?_⟩
  refine Call_ (ld_blt I hg hm boot_enumerate (PyProof.Rows.callWith_type1 (thn (ha.run pos pins s σ H (fun vs H1 => ∃ d ρ1 G1 es, Reps X.w X.K H1 [] vs [d] ∧ seqD d = some es ∧ P (enumD 0 es) ρ1 ∧ Fit X.w X.K p H1 σ ρ1 G1 ∧ Evo G H G1 H1) I ⟨ρ, G, _, F, k, fun ds ρ1 vs H1 G1 h1 F1 e1 r1 => ?_⟩) fun us s1 ⟨vs, H1, I1, r1, d, ρ1, G1, es, rd, hd, pp, F1, e1⟩ => ?_) hs rfl))
  · obtain ⟨d, rfl, es, hd, pp⟩ := h1
    exact ⟨d, ρ1, G1, es, r1, hd, pp, F1, e1⟩
  obtain ⟨v, vr, rfl, ra, rb⟩ := rd.cons0
  obtain ⟨_, rfl⟩ := rb.nil_inv
  obtain ⟨u, rfl, ru⟩ := vals1 r1
  obtain ⟨S, so⟩ := ra.src ru hd
  obtain ⟨o, B, Bg, hB, hst⟩ := Src.begins I1 S so.sIn
  rw [so.value]
  refine call_enum1 Bg hB fun h' he hit hk => wpAny_pyIter_enum he ?_
  have I2 : Inv X pins σ H1 { s1 with heap := h' } := I1.kept (t' := s1.toks) hk
  refine ⟨s1.heap.objs.size + 1, [s1.heap.objs.size + 1, s1.heap.objs.size], _, _, H1, rfl, I2, turn_en 0 S (Nat.succ_ne_self _) (so.sIn.off I1 (Nat.le_refl _)) (so.sIn.off I1 (Nat.le_succ _)), ⟨⟨.none, he⟩, hst _ _ hit⟩, fun b hb => ?_, q _ _ _ H1 G1 pp F1 e1 (itd_en 0 so)⟩
  have hle : s1.heap.objs.size ≤ b := by
    rcases List.mem_cons.mp hb with z | z
    · rw [z]; exact Nat.le_succ _
    · rw [List.mem_singleton.mp z]; exact Nat.le_refl _
  exact I1.fpOk hle (I1.hok.fresh hle)
/-- zip(e, e2, strict=False) -/
def dZip (t : TDZ) : TDI := fun ρ Q => t ρ fun ds ρ1 => ∃ d d2, ds = [d, d2] ∧ ∃ es es2, seqD d = some es ∧ seqD d2 = some es2 ∧ Q (zipD es es2) ρ1
theorem zp_cells {n c : Addr} (h : c ∈ [n + 4, n + 2, n + 3, n, n + 1]) : n ≤ c := by
  have e' : c = n + 4 ∨ c = n + 2 ∨ c = n + 3 ∨ c = n ∨ c = n + 1 := by simpa using h
  rcases e' with e' | e' | e' | e' | e' <;> rw [e']
  · exact Nat.le_add_right _ _
  · exact Nat.le_add_right _ _
  · exact Nat.le_add_right _ _
  · exact Nat.le_refl _
  · exact Nat.le_add_right _ _
theorem zp_nat (n : Nat) : (n + 2 ≠ n + 4 ∧ n + 3 ≠ n + 4 ∧ n + 2 ≠ n + 3 ∧ n + 2 ≠ n ∧ n + 2 ≠ n + 1) ∧ n + 4 ≠ n ∧ n + 4 ≠ n + 1 ∧ n + 3 ≠ n ∧ n + 3 ≠ n + 1 ∧ n ≠ n + 1 := by omega
theorem zp_apart {n : Addr} {S S2 : Src} (h1 : ∀ c, n ≤ c → S.Off c) (h2 : ∀ c, n ≤ c → S2.Off c) : ZpApart (n + 4) (n + 2) (n + 3) n (n + 1) S S2 := by
  obtain ⟨⟨a1, a2, a3, a4, a5⟩, a6, a7, a8, a9, a10⟩ := zp_nat n
  exact ⟨a1, a2, a3, a4, a5, a6, a7, a8, a9, a10, fun c hc => h1 c (zp_cells hc), fun c hc => h2 c (zp_cells hc)⟩
theorem pi_zipF {v : Expr} (hg : Gl X "zip") (hm : X.mg "zip" = none) (ha : PA X [e, e2] (tF X.w X.K p t)) (hv : PE X v (tC (.bl false)))
    (he : backTo pos (starEach [e, e2] X.env) = (false, eval e X.env) :: backTo pos (starEach [e2] X.env) := by rfl) (hpl : (backTo pos (starEach [e, e2] X.env)).any (·.1) = false := by rfl)
    (hall : (backToKw pos (keywordEach [⟨some "strict", v, kp⟩] X.env)).all (·.1.isSome) = true := by rfl) (hnone : (backToKw pos (keywordEach [⟨some "strict", v, kp⟩] X.env)).any (·.1.isNone) = false := by rfl) (hks : (backToKw pos (keywordEach [⟨some "strict", v, kp⟩] X.env)).filterMap (·.1) = [Str.ofString "strict"] := by rfl) :
    PI X (.Tuple elts kk tpos) (.Call (.Name "zip" p') [e, e2] [⟨some "strict", v, kp⟩] pos) (tI X.w X.K p (dZip t)) := by
  refine ⟨fun pins s σ H R I ⟨ρ, G, P, F, k, q⟩ => ?_⟩
  refine wpAny_Call_Name_kw (ld_blt I hg hm PyProof.Rows.boot_zip (ty_kw (ks := [Str.ofString "strict"]) (thn (ha.run pos pins s σ H (fun vs H1 => ∃ d d2 ρ1 G1 es es2, Reps X.w X.K H1 [] vs [d, d2] ∧ seqD d = some es ∧ seqD d2 = some es2 ∧ P (zipD es es2) ρ1 ∧ Fit X.w X.K p H1 σ ρ1 G1 ∧ Evo G H G1 H1) I ⟨ρ, G, _, F, k, fun ds ρ1 vs H1 G1 h1 F1 e1 r1 => ?_⟩)
    fun us s1 ⟨vs, H1, I1, r1, d, d2, ρ1, G1, es, es2, rd, hd, hd2, pp, F1, e1⟩ => thn ((pk_cons (nm := some "strict") (kpos := kp) hv pk_nil).run pos pins s1 σ H1 (fun zs H2 => zs = [.bl false] ∧ H2 = H1) I1 ⟨rfl, rfl⟩) fun ws s2 ⟨zs, H2, I2, r2, ez, eH⟩ => ?_) he hpl hall hnone hks))
  · obtain ⟨d, d2, rfl, es, es2, hd, hd2, pp⟩ := h1
    exact ⟨d, d2, ρ1, G1, es, es2, r1, hd, hd2, pp, F1, e1⟩
  subst ez eH
  obtain ⟨v1, vr1, rfl, ra, rb'⟩ := rd.cons0
  obtain ⟨v2, vr2, rfl, rb, rc⟩ := rb'.cons0
  obtain ⟨_, rfl⟩ := rc.nil_inv
  obtain ⟨u1, u2, rfl, ru1, ru2⟩ := vals2 r1
  obtain ⟨u3, rfl, ru3⟩ := vals1 r2
  cases ru3
  obtain ⟨S, so⟩ := ra.src ru1 hd
  obtain ⟨S2, so2⟩ := rb.src ru2 hd2
  obtain ⟨o, B, Bg, hB, hst⟩ := Src.begins I2 S so.sIn
  obtain ⟨o2, B2, Bg2, hB2, hst2⟩ := Src.begins I2 S2 so2.sIn
  rw [so.value, so2.value]
  refine call_zipK Bg Bg2 hB hB2 fun h' hz hTI hTO h1 h2 hk => wpAny_pyIter_zip hz ?_
  have I3 : Inv X pins σ H2 { s2 with heap := h' } := I2.kept (t' := s2.toks) hk
  refine ⟨s2.heap.objs.size + 4, [s2.heap.objs.size + 4, s2.heap.objs.size + 2, s2.heap.objs.size + 3, s2.heap.objs.size, s2.heap.objs.size + 1], _, _, H2, rfl, I3, turn_zp (z := s2.heap.objs.size + 4) (TI := s2.heap.objs.size + 2) (TO := s2.heap.objs.size + 3) (i1 := s2.heap.objs.size) (i2 := s2.heap.objs.size + 1) S S2 (zp_apart (fun c hc => so.sIn.off I2 hc) (fun c hc => so2.sIn.off I2 hc)), ⟨hz, hTI, ⟨_, _, hTO⟩, hst _ _ h1, hst2 _ _ h2⟩, fun b hb => I2.fpOk (zp_cells hb) (I2.hok.fresh (zp_cells hb)), q _ _ _ H2 G1 pp F1 e1 (itd_zp so so2)⟩
end
end KW
/-! KWn: methods, mutations of owned values, stores. -/
namespace KW
open PySem PySem.Spec L2
open PyProof.Rows hiding St

/-! ### a value's type -/
theorem Rep.typed {X : Cx} {pins : List (Addr × Obj)} {σ : L2.St} {H : Hp} {s : Shared} (I : Inv X pins σ H s) {fp : List Addr} {x : V} {d : D} {u : Value} {t : Ty} (r : Rep X.w X.K H fp x d) (rx : RelV x u) (h : d.ty = some t) (ht : t = .str ∨ t = .list ∨ t = .dict) :
    s.TypeIs u t.name ∧ ∀ a, u = .ref a → ∃ ob, s.heap.get? a = some ob ∧ ob.dict = none := by
  cases r with
  | non => cases h; simp at ht
  | bl b => cases h; simp at ht
  | int i => cases h; simp at ht
  | str z => cases h; obtain ⟨k, rfl⟩ := rx; exact ⟨typeIs_str s z k, fun _ e => nomatch e⟩
  | opq v => cases h
  | tup h1 h2 => cases h; simp at ht
  | lstF h1 h2 =>
    cases h; cases rx
    obtain ⟨its, rv, ⟨o, n, ho, hc, hd, _⟩, hz⟩ := I.list h1.sq
    exact ⟨⟨o, ho, hc⟩, fun a e => by cases e; exact ⟨o, ho, hd⟩⟩
  | lstO h1 h2 =>
    cases h; cases rx
    obtain ⟨its, rv, ⟨o, n, ho, hc, hd, _⟩, hz⟩ := I.list (SqL.of h1)
    exact ⟨⟨o, ho, hc⟩, fun a e => by cases e; exact ⟨o, ho, hd⟩⟩
  | dctF h1 hn h2 =>
    cases h; cases rx
    obtain ⟨hs, hz, eo, ep, ⟨o, ho, ⟨hc, hd, _⟩, _⟩, hpd⟩ := rd_at I (.inr ⟨_, h1⟩)
    exact ⟨⟨o, ho, hc⟩, fun a e => by cases e; exact ⟨o, ho, hd⟩⟩
  | dctO h1 hn h2 =>
    cases h; cases rx
    obtain ⟨hs, hz, eo, ep, ⟨o, ho, ⟨hc, hd, _⟩, _⟩, hpd⟩ := rd_at I (.inl h1)
    exact ⟨⟨o, ho, hc⟩, fun a e => by cases e; exact ⟨o, ho, hd⟩⟩

/-! ### methods that change nothing -/
/-- a method by values -/
def mD (w : World) (K : PySem.W.Frag) (f : D → List D → Option D) : V → List V → Hp → VK → Prop := fun x xs H Q => ∃ fx dx ds d, Rep w K H fx x dx ∧ RepAny w K H xs ds ∧ f dx ds = some d ∧ Res w K H d Q
def dMeth (T : Ty) (f : D → List D → Option D) (to : TDE) (t : TDA) : TDE := fun ρ Q => to ρ fun x ρ1 => (∃ dx, x.get ρ1 = some dx ∧ dx.ty = some T) ∧ t ρ1 fun xs ρ2 => ∃ dx, x.get ρ2 = some dx ∧ ∃ ds, getAll ρ2 xs = some ds ∧ ∃ d, f dx ds = some d ∧ Q (.val d) ρ2
section
variable {X : Cx} {p : Option V} {o e : Expr} {es : List Expr} {to : TDE} {t : TDA} {name : Str} {apos cpos : Pos} {T : Ty} {id : String} {f : D → List D → Option D}
theorem pd_meth (hT : T = .str ∨ T = .list ∨ T = .dict) (pa : PlainAttrs T.name) (slot : Slot T.name name id) (hty : typeOf (.builtin id) = pure (.type "method_descriptor")) (hm : MtR X id (mD X.w X.K f)) (ho : PE X o (tE X.w X.K p to)) (ha : PA X (e :: es) (tA X.w X.K p t))
    (hbase : attributeBase o name X.env (eval o X.env) = eval o X.env := by rfl)
    (hfew : ((backTo cpos (starEach (e :: es) X.env)).all (fun x => !x.1) && (backToKw cpos (keywordEach [] X.env)).all (fun x => x.1.isSome)
      && decide ((e :: es).length + ([] : List Keyword).length + (if ([] : List Keyword).isEmpty then 0 else 1) < 30)) = true := by rfl)
    (hline : (apos.endLine == cpos.line) = true := by rfl) (hs : starEach (e :: es) X.env = (false, eval e X.env) :: starEach es X.env := by rfl) (hplain : (backTo cpos (starEach es X.env)).any (·.1) = false := by rfl) :
    PE X (.Call (.Attribute o name apos) (e :: es) [] cpos) (tE X.w X.K p (dMeth T f to t)) := by
  refine ⟨fun pins s σ H Q I ⟨ρ, G, P, F, k, q⟩ => ?_⟩
  refine wpAny_Call_method_late hbase hfew hline rfl (thn (ho.run pins s σ H (fun v H1 => ∃ x ρ1 G1 fp1, (∃ dx, x.get ρ1 = some dx ∧ dx.ty = some T) ∧ (t ρ1 fun xs ρ2 => ∃ dx, x.get ρ2 = some dx ∧ ∃ ds, getAll ρ2 xs = some ds ∧ ∃ d, f dx ds = some d ∧ P (.val d) ρ2) ∧ Fit X.w X.K p H1 σ ρ1 G1 ∧ Evo G H G1 H1 ∧ RepOpd X.w X.K H1 σ G1 fp1 v x) I
    ⟨ρ, G, _, F, k, fun x ρ1 v1 H1 G1 fp1 h1 F1 e1 n1 r1 => ⟨x, ρ1, G1, fp1, h1.1, h1.2, F1, e1, r1⟩⟩) fun v s1 ⟨xv, H1, I1, rv, x, ρ1, G1, fp1, ⟨dx, gx, hdx⟩, h1, F1, e1, r1⟩ => ?_)
  obtain ⟨fx, rx⟩ := r1.rep F1 gx
  obtain ⟨h2, h3⟩ := rx.typed I1 rv hdx hT
  refine ⟨T.name, id, pa, slot, hty, h2, h3, ?_⟩
  have hA := ha.run cpos pins s1 σ H1 (fun vs H2 => mD X.w X.K f xv vs H2 Q) I1 ⟨ρ1, G1, _, F1, h1, fun xs ρ2 vs H2 G2 fp2 h2 F2 e2 n2 r2 => ?_⟩
  · rw [hs] at hA ⊢
    refine Calls.callWith_builtin (by show (false || (backTo cpos (starEach es X.env)).any (·.1)) = false; rw [hplain] <;> rfl) (Calls.evalArgs_plain ?_)
    exact thn hA fun us s2 ⟨vs, H2, I2, r2, q2⟩ => hm pins s2 σ H2 xv vs v us Q I2 rv r2 q2
  · obtain ⟨dx', gx', ds, gs, d, ed, pp⟩ := h2
    obtain ⟨fx', rx'⟩ := (r1.evo F1 e2).rep F2 gx'
    exact ⟨fx', dx', ds, d, rx', r2.any F2 gs, ed, res_of F2 (e1.trans e2) fun v H' G' fp => q _ _ v H' G' fp pp⟩
def dMeth0 (T : Ty) (f : D → List D → Option D) (to : TDE) : TDE := fun ρ Q => to ρ fun x ρ1 => ∃ dx, x.get ρ1 = some dx ∧ dx.ty = some T ∧ ∃ d, f dx [] = some d ∧ Q (.val d) ρ1
theorem pd_meth0 (hT : T = .str ∨ T = .list ∨ T = .dict) (pa : PlainAttrs T.name) (slot : Slot T.name name id) (hty : typeOf (.builtin id) = pure (.type "method_descriptor")) (hm : MtR X id (mD X.w X.K f)) (ho : PE X o (tE X.w X.K p to))
    (hbase : attributeBase o name X.env (eval o X.env) = eval o X.env := by rfl) (hline : (apos.endLine == cpos.line) = true := by rfl) : PE X (.Call (.Attribute o name apos) [] [] cpos) (tE X.w X.K p (dMeth0 T f to)) := by
  refine ⟨fun pins s σ H Q I ⟨ρ, G, P, F, k, q⟩ => ?_⟩
  refine wpAny_Call_method0_late hbase hline (thn (ho.run pins s σ H (fun v H1 => ∃ fx dx d, Rep X.w X.K H1 fx v dx ∧ dx.ty = some T ∧ f dx [] = some d ∧ Res X.w X.K H1 d Q) I
    ⟨ρ, G, _, F, k, fun x ρ1 v1 H1 G1 fp1 h1 F1 e1 n1 r1 => ?_⟩) fun v s1 ⟨xv, H1, I1, rv, fx, dx, d, rx, hdx, ed, hr⟩ => ?_)
  · obtain ⟨dx, gx, hdx, d, ed, pp⟩ := h1
    obtain ⟨fx, rx⟩ := r1.rep F1 gx
    exact ⟨fx, dx, d, rx, hdx, ed, res_of F1 e1 fun v H' G' fp => q _ _ v H' G' fp pp⟩
  · obtain ⟨h2, h3⟩ := rx.typed I1 rv hdx hT
    exact ⟨T.name, id, pa, slot, hty, h2, h3, Calls.callWith_builtin rfl (PySem.evalArgs_none (hm pins s1 σ H1 xv [] v [] Q I1 rv .nil ⟨fx, dx, [], d, rx, .nil, ed, hr⟩))⟩
end

/-! ### mutations -/
/-- what a mutation of the object x (its nodes fp; gp: the arguments' nodes) brings -/
def MutQ (w : World) (K : PySem.W.Frag) (H : Hp) (x : V) (fp gp : List Addr) (d0' r : D) (Q : V → Hp → Prop) : Prop :=
  ∀ u a o' fp' gp', x = .ref a → a ∈ fp → OwnO o' → Rep w K (upd H a o') fp' x d0' → Rep w K (upd H a o') gp' u r → fp'.Nodup → gp'.Nodup → (∀ b ∈ gp', b ∉ fp') → (∀ b ∈ fp', b ∈ fp ∨ b ∈ gp) → (∀ b ∈ gp', b ∈ fp ∨ b ∈ gp) → Q u (upd H a o')
section
variable {w : World} {K : PySem.W.Frag} {p : Option V} {H H0 : Hp} {σ : L2.St} {ρ : Env} {G G0 : Fps}
theorem mut_fit (F : Fit w K p H σ ρ G) (e : Evo G0 H0 G H) {i : Nat} {x : V} {d0 d0' r : D} {gp : List Addr} {Q : V → Hp → Prop} (hv : σ[i]? = some (some x)) (hd : ρ.getD i none = some d0) (nw : Nw G0 H0 gp) (ap : ∀ a ∈ gp, ∀ j, a ∉ G j)
    (k : ∀ v H' G' gp', Fit w K p H' σ (ρ.set i (some d0')) G' → Evo G0 H0 G' H' → Nw G0 H0 gp' → RepOpd w K H' σ G' gp' v (.val r) → Q v H') : MutQ w K H x (G i) gp d0' r Q := by
  intro u a o' fp' gp' ex ha ow r1 r2 n1 n2 dj s1 s2
  subst ex
  have hi : i < ρ.length := by
    rw [F.len]; exact (List.getElem?_eq_some_iff.mp hv).1
  have keep : ∀ b o, H b = some o → b ≠ a → upd H a o' b = some o := fun b o h hb => by rw [upd_ne hb]; exact h
  have offP : ∀ b o, H b = some o → Perm o → b ≠ a := fun b o h pm z => by
    obtain ⟨oa, h2, ow2⟩ := F.own ha
    rw [z, h2] at h; cases h
    exact ow2.np pm
  -- the other slots
  have F2 : Fit w K p (upd H a o') σ (ρ.set i none) (setF G i []) := by
    have Fd := F.drop i
    refine ⟨fun j d' q => ?_, Fd.emp, Fd.nod, Fd.dj, Fd.len, Fd.pin⟩
    obtain ⟨v, q1, q2⟩ := Fd.rep j d' q
    refine ⟨v, q1, q2.mono (fun b o h pm => keep b o h (offP b o h pm)) d' _ _ fun b hb o h => keep b o h fun z => ?_⟩
    subst z
    by_cases ej : j = i
    · subst ej; rw [setF_same] at hb; cases hb
    · rw [setF_ne ej] at hb; exact ej (F.dj j i b hb ha)
  have apj : ∀ b, (b ∈ G i ∨ b ∈ gp) → ∀ j, j ≠ i → b ∉ G j := fun b hb j hj hm => by
    rcases hb with z | z
    · exact hj (F.dj j i b hm z)
    · exact ap b z j hm
  have F3 := F2.re hv r1 n1 fun b hb j hj hm => by
    rw [setF_ne hj] at hm
    exact apj b (s1 b hb) j hj hm
  have e1 : (ρ.set i none).set i (some d0') = ρ.set i (some d0') := by simp
  have e2 : setF (setF G i []) i fp' = setF G i fp' := by funext j; unfold setF; split <;> rfl
  rw [e1, e2] at F3
  have nwb : ∀ b, (b ∈ G i ∨ b ∈ gp) → (∃ j, b ∈ G0 j) ∨ H0 b = none := fun b hb => by
    rcases hb with z | z
    · exact e.new i b z
    · exact nw b z
  refine k u _ _ gp' F3 ⟨fun b o h n => keep b o (e.keep b o h n) fun z => ?_, fun j b hm => ?_, fun b o h => ?_⟩ (fun b hb => nwb b (s2 b hb)) ⟨r2, n2, fun b hb j hm => ?_⟩
  · subst z
    rcases e.new i b ha with ⟨j, z⟩ | z
    · exact n j z
    · rw [z] at h; cases h
  · by_cases ej : j = i
    · subst ej
      rw [setF_same] at hm
      exact nwb b (s1 b hm)
    · rw [setF_ne ej] at hm; exact e.new j b hm
  · by_cases hb : b = a
    · exact ⟨o', by rw [hb]; exact upd_same⟩
    · obtain ⟨o1, h1⟩ := e.dom b o h
      exact ⟨o1, keep b o1 h1 hb⟩
  · by_cases ej : j = i
    · subst ej; rw [setF_same] at hm; exact dj b hb hm
    · rw [setF_ne ej] at hm; exact apj b (s2 b hb) j ej hm
end
/-- a method that changes its object, by values -/
def MuD (X : Cx) (id : String) (f : D → List D → Option (D × D)) : Prop :=
  ∀ (pins : List (Addr × Obj)) (s : Shared) (σ : L2.St) (H : Hp) (x : V) (vs : List V) (v : Value) (us : List Value) (fp gp : List Addr) (d0 d0' r : D) (ds : List D) (Q : VK), Inv X pins σ H s → RelV x v → Vals vs us → Rep X.w X.K H fp x d0 → Reps X.w X.K H gp vs ds → fp.Nodup → gp.Nodup → (∀ a ∈ gp, a ∉ fp) →
    f d0 ds = some (d0', r) → MutQ X.w X.K H x fp gp d0' r Q → wpAny (model X.prog X.w) X.A (call (.builtin id) (v :: us)) (EP X pins σ Q) X.xe s
def dMut (i : Nat) (T : Ty) (f : D → List D → Option (D × D)) (t : TDZ) : TDE := fun ρ Q => (∃ d, ρ.getD i none = some d ∧ d.ty = some T) ∧ t ρ fun ds ρ1 => ∃ d0, ρ1.getD i none = some d0 ∧ ∃ d0' r, f d0 ds = some (d0', r) ∧ Q (.val r) (ρ1.set i (some d0'))
section
variable {X : Cx} {p : Option V} {e : Expr} {es : List Expr} {t : TDZ} {name x : Str} {apos cpos xp : Pos} {T : Ty} {id : String} {f : D → List D → Option (D × D)}
/-- x.m(e, ..), x a slot that m changes -/
theorem pd_mut (i : Nat) (hT : T = .str ∨ T = .list ∨ T = .dict) (pa : PlainAttrs T.name) (slot : Slot T.name name id) (hty : typeOf (.builtin id) = pure (.type "method_descriptor")) (hm : MuD X id f) (hx : PE X (.Name x xp) (tVar i)) (ha : PA X (e :: es) (tZ X.w X.K p t))
    (hbase : attributeBase (.Name x xp) name X.env (eval (.Name x xp) X.env) = eval (.Name x xp) X.env := by rfl)
    (hfew : ((backTo cpos (starEach (e :: es) X.env)).all (fun x => !x.1) && (backToKw cpos (keywordEach [] X.env)).all (fun x => x.1.isSome)
      && decide ((e :: es).length + ([] : List Keyword).length + (if ([] : List Keyword).isEmpty then 0 else 1) < 30)) = true := by rfl)
    (hline : (apos.endLine == cpos.line) = true := by rfl) (hs : starEach (e :: es) X.env = (false, eval e X.env) :: starEach es X.env := by rfl) (hplain : (backTo cpos (starEach es X.env)).any (·.1) = false := by rfl) :
    PE X (.Call (.Attribute (.Name x xp) name apos) (e :: es) [] cpos) (tE X.w X.K p (dMut i T f t)) := by
  refine ⟨fun pins s σ H Q I ⟨ρ, G, P, F, ⟨⟨d, hd, hdt⟩, k⟩, q⟩ => ?_⟩
  obtain ⟨v0, ev, rd⟩ := F.rep i d (getD_some hd)
  refine wpAny_Call_method_late hbase hfew hline rfl (thn (hx.run pins s σ H (fun v H1 => v = v0 ∧ H1 = H) I ⟨v0, ev, rfl, rfl⟩) fun v s1 ⟨xv, H1, I1, rv, exv, eH⟩ => ?_)
  subst exv eH
  obtain ⟨h2, h3⟩ := rd.typed I1 rv hdt hT
  refine ⟨T.name, id, pa, slot, hty, h2, h3, ?_⟩
  have hA := ha.run cpos pins s1 σ H1 (fun vs H2 => ∃ ds ρ1 G1 gp, (∃ d0, ρ1.getD i none = some d0 ∧ ∃ d0' r, f d0 ds = some (d0', r) ∧ P (.val r) (ρ1.set i (some d0'))) ∧ Fit X.w X.K p H2 σ ρ1 G1 ∧ Evo G H1 G1 H2 ∧ Nw G H1 gp ∧ Reps X.w X.K H2 gp vs ds ∧ gp.Nodup ∧ ∀ a ∈ gp, ∀ j, a ∉ G1 j) I1
    ⟨ρ, G, _, F, k, fun ds ρ1 vs H2 G1 gp h2 F1 e1 n1 r1 nd1 ap1 => ⟨ds, ρ1, G1, gp, h2, F1, e1, n1, r1, nd1, ap1⟩⟩
  rw [hs] at hA ⊢
  refine Calls.callWith_builtin (by show (false || (backTo cpos (starEach es X.env)).any (·.1)) = false; rw [hplain] <;> rfl) (Calls.evalArgs_plain ?_)
  refine thn hA fun us s2 ⟨vs, H2, I2, r2, ds, ρ1, G1, gp, ⟨d0, g0, d0', r, ef, pp⟩, F1, e1, n1, rs, nd1, ap1⟩ => ?_
  obtain ⟨v1, ev1, r0⟩ := F1.rep i d0 (getD_some g0)
  rw [ev] at ev1; cases ev1
  exact hm pins s2 σ H2 xv vs v us (G1 i) gp d0 d0' r ds Q I2 rv r2 r0 rs (F1.nod i) nd1 (fun a ha => ap1 a ha i) ef (mut_fit F1 e1 ev g0 n1 ap1 fun v H' G' gp' F' e' n' r' => q _ _ v H' G' gp' pp F' e' n' r')
end

/-! ### lists -/
def appendD : D → List D → Option (D × D)
  | .lst true ys, [y] => if ys.length < sizeLine then some (.lst true (ys ++ [y]), .non) else none
  | _, _ => none
def extendD : D → List D → Option (D × D)
  | .lst true ys, [.lst _ zs] => if ys.length + zs.length ≤ sizeLine ∧ D.isFzs zs = true then some (.lst true (ys ++ zs), .non) else none
  | _, _ => none
def popD : D → List D → Option (D × D)
  | .lst true ys, [] => match ys.getLast? with
    | some y => some (.lst true ys.dropLast, y)
    | none => none
  | _, _ => none
theorem Rep.lstOwn {w : World} {K : PySem.W.Frag} {H : Hp} {fp : List Addr} {x : V} {ys : List D} (r : Rep w K H fp x (.lst true ys)) : ∃ a xs f, x = .ref a ∧ fp = a :: f ∧ H a = some (.lst xs) ∧ Reps w K H f xs ys := by
  cases r with
  | lstO h1 h2 => exact ⟨_, _, _, rfl, rfl, h1, h2⟩
/-- nodes apart from a stay as a is written -/
theorem Reps.wr {w : World} {K : PySem.W.Frag} {H : Hp} {fp : List Addr} {vs : List V} {ds : List D} {a : Addr} {oa o' : HO} (r : Reps w K H fp vs ds) (ha : H a = some oa) (ow : OwnO oa) (hn : a ∉ fp) : Reps w K (upd H a o') fp vs ds :=
  r.mono (fun b o h pm => by rw [upd_ne (fun z => by rw [z, ha] at h; cases h; exact ow.np pm)]; exact h) ds _ _ fun b hb o h => by rw [upd_ne (fun z => hn (by rw [← z]; exact hb))]; exact h
theorem Rep.wr {w : World} {K : PySem.W.Frag} {H : Hp} {fp : List Addr} {v : V} {d : D} {a : Addr} {oa o' : HO} (r : Rep w K H fp v d) (ha : H a = some oa) (ow : OwnO oa) (hn : a ∉ fp) : Rep w K (upd H a o') fp v d :=
  r.mono (fun b o h pm => by rw [upd_ne (fun z => by rw [z, ha] at h; cases h; exact ow.np pm)]; exact h) d _ _ fun b hb o h => by rw [upd_ne (fun z => hn (by rw [← z]; exact hb))]; exact h
theorem Reps.ofNil {w : World} {K : PySem.W.Frag} {H : Hp} {gp : List Addr} {vs : List V} {d : D} (r : Reps w K H gp vs [d]) : ∃ v, vs = [v] ∧ Rep w K H gp v d := by
  obtain ⟨v, vr, f, g, rfl, rfl, r1, r2⟩ := r.cons_inv
  obtain ⟨rfl, rfl⟩ := r2.nil_inv
  exact ⟨v, rfl, by rw [List.append_nil]; exact r1⟩
section
variable {X : Cx}
theorem mu_append : MuD X "list.append" appendD := by
  intro pins s σ H x vs v us fp gp d0 d0' r ds Q I rx rv r0 rs nf ng dj hf k
  unfold appendD at hf
  split at hf
  · split at hf
    · rename_i ys y hz
      cases hf
      obtain ⟨a, xs, f, rfl, rfl, hH, ry⟩ := r0.lstOwn
      obtain ⟨u, rfl, ru⟩ := rs.ofNil
      obtain ⟨na, nf'⟩ := List.nodup_cons.mp nf
      have nag : a ∉ gp := fun z => dj a z List.mem_cons_self
      refine mt_append pins s σ H _ _ v us Q I rx rv ⟨a, xs, u, rfl, rfl, hH, by rw [ry.length]; exact hz, k .non a _ (a :: (f ++ (gp ++ []))) [] rfl List.mem_cons_self trivial (.lstO upd_same ((ry.wr hH trivial na).append (.cons (ru.wr hH trivial nag) .nil))) .non ?_ .nil (fun _ z => nomatch z) (fun b hb => ?_) (fun _ z => nomatch z)⟩
      · rw [List.append_nil]
        refine List.nodup_cons.mpr ⟨fun z => (List.mem_append.mp z).elim na nag, List.nodup_append.mpr ⟨nf', ng, fun b hb c hc z => dj c hc (List.mem_cons_of_mem _ (by rw [← z]; exact hb))⟩⟩
      · rw [List.append_nil] at hb
        rcases List.mem_cons.mp hb with z | z
        · exact .inl (by rw [z]; exact List.mem_cons_self)
        · exact (List.mem_append.mp z).imp (List.mem_cons_of_mem _) id
    · cases hf
  · cases hf
theorem meets_ext (l : Addr) (its : Array Value) (n : Nat) (b : Addr) (its2 : Array Value) (n2 : Nat) (sl : Array (Option Value)) (h0 : ¬(!its.isEmpty && Builtin.List.listTooLong (its.size + its2.size)) = true) (h1 : its.size ≤ sizeLine) (h2 : its.size + its2.size ≤ sizeLine + 1) :
    Meets (Builtin.«list.extend» ⟨[.ref l, .ref b], []⟩) (fun _ R s => s.heap.get? l = some { cls := .type "list", dict := none, data := .seq its n, slots := #[] } ∧ s.heap.get? b = some { cls := .type "list", dict := none, data := .seq its2 n2, slots := sl } ∧ R (.ok (.ret Value.none)) { s with heap := s.heap.update l (Obj.mapSeq fun x => x ++ its2), toks := s.toks }) :=
  .of_wp fun prog w A R s hh => by
    obtain ⟨hp, g, d, tk, os⟩ := s
    obtain ⟨hl, hb, h⟩ := hh
    have f1 := PySem.AutoSeq1.idx_int; have f2 := PySem.AutoSeq1.sub_tuple_tuple; have f3 := PySem.AutoSeq1.sub_list_list; have f4 := PySem.AutoSeq1.sub_tuple_list; have f5 := PySem.AutoSeq1.sub_list_tuple
    have hz' : (its ++ its2).size ≤ sizeLine + 1 := by rw [Array.size_append]; exact h2
    wp_walk using (wpAny_updateSeq hl rfl (hz := h1) (_hz' := hz')), PySem.AutoSeq1.wpAny_loadPart' hl, PySem.AutoSeq1.wpAny_loadPart' hb
    exact ⟨_, rfl, h⟩
theorem mu_extend : MuD X "list.extend" extendD := by
  intro pins s σ H x vs v us fp gp d0 d0' r ds Q I rx rv r0 rs nf ng dj hf k
  unfold extendD at hf
  split at hf
  · split at hf
    · rename_i ys o zs hz
      cases hf
      obtain ⟨a, xs, f, rfl, rfl, hH, ry⟩ := r0.lstOwn
      obtain ⟨u, rfl, ru⟩ := rs.ofNil
      obtain ⟨b, ws, g, rfl, hb, rz⟩ := ru.sqL
      have rz0 := rz.fz0 hz.2
      obtain ⟨na, nf'⟩ := List.nodup_cons.mp nf
      cases rx
      obtain ⟨u, rfl, ru2⟩ := vals1 rv
      cases ru2
      obtain ⟨z, its, n, rI, hl, e⟩ := I.lstM hH
      obtain ⟨its2, rI2, ⟨o2, n2, e2, hc2, hd2, hdat2⟩, hz2⟩ := I.list hb
      have hsz : its.toArray.size + its2.toArray.size ≤ sizeLine := by rw [List.size_toArray, List.size_toArray, ← hl, ← rI2.length, ry.length, rz0.length]; exact hz.1
      have hlong : ¬ (!its.toArray.isEmpty && Builtin.List.listTooLong (its.toArray.size + its2.toArray.size)) = true := by
        rw [notLongL hsz, Bool.and_false]
        exact Bool.false_ne_true
      obtain ⟨c2, d2, dt2, sl2⟩ := o2
      cases hc2; cases hd2; cases hdat2
      refine call_meets F.slot_list_extend ⟨_, e, rfl⟩ F.entry_list_extend (F.args_list_extend_2 _ _) (meets_ext a its.toArray n b its2.toArray n2 sl2 hlong (by rw [List.size_toArray, ← hl]; exact z) (by omega)) ⟨e, e2, ?_⟩
      have hlen : (xs ++ ws).length ≤ sizeLine := by rw [List.length_append, ry.length, rz0.length]; exact hz.1
      refine ⟨.non, _, I.lset (its' := its ++ its2) hH e (by simp) (rI.append rI2) hlen, rfl, k .non a _ (a :: (f ++ [])) [] rfl List.mem_cons_self trivial (.lstO upd_same ((ry.wr hH trivial na).append (rz0.wr hH trivial (fun z => nomatch z)))) .non (by rw [List.append_nil]; exact nf) .nil (fun _ z => nomatch z) (fun b hb => .inl (by rw [List.append_nil] at hb; exact hb)) (fun _ z => nomatch z)⟩
    · cases hf
  · cases hf
end

/-! ### x[i] = e of a slot x -/
def stD : D → D → D → Option D
  | .lst true ys, .int j, d => (ixN ys.length j).map fun n => .lst true (ys.set n d)
  | .dct true kvs, k, d => k.key?.bind fun kk => if kk.depth ≤ 8 ∧ kvs.length < sizeLine then some (.dct true (setK kvs k d)) else none
  | _, _, _ => none
theorem Reps.set {w : World} {K : PySem.W.Frag} {H : Hp} {v : V} {d : D} {gp : List Addr} (r1 : Rep w K H gp v d) : ∀ {vs : List V} {ds : List D} {fp : List Addr} (n : Nat), Reps w K H fp vs ds → n < vs.length → fp.Nodup → gp.Nodup → (∀ a ∈ gp, a ∉ fp) → ∃ fp', Reps w K H fp' (vs.set n v) (ds.set n d) ∧ fp'.Nodup ∧ ∀ a ∈ fp', a ∈ fp ∨ a ∈ gp
  | _, _, _, n, .nil, h, _, _, _ => by simp at h
  | _, _, _, 0, .cons (fp := f1) (gp := f2) r t, _, nf, ng, dj => by
    obtain ⟨n1, n2, n3⟩ := List.nodup_append.mp nf
    refine ⟨gp ++ f2, .cons r1 t, List.nodup_append.mpr ⟨ng, n2, fun a ha b hb z => dj a ha (by rw [z]; exact List.mem_append_right _ hb)⟩, fun a z => ?_⟩
    rcases List.mem_append.mp z with z | z
    · exact .inr z
    · exact .inl (List.mem_append_right _ z)
  | _, _, _, n + 1, .cons (fp := f1) (gp := f2) r t, h, nf, ng, dj => by
    obtain ⟨n1, n2, n3⟩ := List.nodup_append.mp nf
    obtain ⟨fp', r2, n4, s4⟩ := Reps.set r1 n t (by simpa using h) n2 ng fun a ha z => dj a ha (List.mem_append_right _ z)
    refine ⟨f1 ++ fp', .cons r r2, List.nodup_append.mpr ⟨n1, n4, fun a ha b hb z => ?_⟩, fun a z => ?_⟩
    · subst z
      rcases s4 a hb with z | z
      · exact n3 a ha a z rfl
      · exact dj a z (List.mem_append_left _ ha)
    · rcases List.mem_append.mp z with z | z
      · exact .inl (List.mem_append_left _ z)
      · exact (s4 a z).imp (fun y => List.mem_append_right _ y) id
theorem Rep.dctOwn {w : World} {K : PySem.W.Frag} {H : Hp} {fp : List Addr} {x : V} {kvs : List (D × D)} (r : Rep w K H fp x (.dct true kvs)) : ∃ a es f, x = .ref a ∧ fp = a :: f ∧ H a = some (RD a es) ∧ (keysOf kvs).Nodup ∧ RepD w K H f es kvs := by
  cases r with
  | dctO h1 hn h2 => exact ⟨_, _, _, rfl, rfl, h1, hn, h2⟩
theorem RepD.wr {w : World} {K : PySem.W.Frag} {H : Hp} {fp : List Addr} {es : List (Int × V × V)} {kvs : List (D × D)} {a : Addr} {oa o' : HO} (r : RepD w K H fp es kvs) (ha : H a = some oa) (ow : OwnO oa) (hn : a ∉ fp) : RepD w K (upd H a o') fp es kvs :=
  r.mono (fun b o h pm => by rw [upd_ne (fun z => by rw [z, ha] at h; cases h; exact ow.np pm)]; exact h) kvs _ _ fun b hb o h => by rw [upd_ne (fun z => hn (by rw [← z]; exact hb))]; exact h
mutual
theorem key_fz : ∀ d : D, d.key? ≠ none → d.isFz = true
  | .non, _ => rfl
  | .bl _, _ => rfl
  | .int _, _ => rfl
  | .str _, _ => rfl
  | .opq _, h => absurd rfl h
  | .lst _ _, h => absurd rfl h
  | .dct _ _, h => absurd rfl h
  | .tup ds, h => by
    rw [D.isFz]
    refine keys_fz ds fun z => h ?_
    show (D.keys? ds).map NestedKey.tup = none
    rw [z]; rfl
theorem keys_fz : ∀ ds : List D, D.keys? ds ≠ none → D.isFzs ds = true
  | [], _ => rfl
  | d :: ds, h => by
    rw [D.keys?] at h
    rw [D.isFzs, Bool.and_eq_true]
    refine ⟨key_fz d fun z => h (by rw [z]), keys_fz ds fun z => h ?_⟩
    rw [z]
    cases D.key? d <;> rfl
end
abbrev Dnx (D : Ends) (σ : L2.St) (H : Hp) : Prop := D.nx σ H
/-- a store, by values -/
theorem st_ok {X : Cx} (hu : X.A.units + 9 < cLine) {pins : List (Addr × Obj)} {s : Shared} {σ : L2.St} {H : Hp} {x y v : V} {xu yu u : Value} {fp gp gk : List Addr} {d0 dk d d0' : D} {Q : Hp → Prop} (I : Inv X pins σ H s) (rx : RelV x xu) (ry : RelV y yu) (rv : RelV v u) (r0 : Rep X.w X.K H fp x d0) (rk : Rep X.w X.K H gk y dk) (rd : Rep X.w X.K H gp v d)
    (nf : fp.Nodup) (ng : gp.Nodup) (dj : ∀ a ∈ gp, a ∉ fp) (hf : stD d0 dk d = some d0') (k : MutQ X.w X.K H x fp gp d0' .non fun _ H' => Q H') : wpAny (model X.prog X.w) X.A (setItem xu yu u) (fun _ s' => ∃ H', Inv X pins σ H' s' ∧ Q H') X.xe s := by
  unfold stD at hf
  split at hf
  · obtain ⟨n, e1, e2⟩ := Option.map_eq_some_iff.mp hf
    cases e2
    obtain ⟨a, xs, f, rfl, rfl, hH, ry'⟩ := r0.lstOwn
    cases rk
    obtain ⟨na, nf'⟩ := List.nodup_cons.mp nf
    have nag : a ∉ gp := fun z => dj a z List.mem_cons_self
    have hn : n < xs.length := by
      rw [← ry'.length] at e1
      exact (ixN_seq e1).2.1
    obtain ⟨fp', r2, n2, s2⟩ := Reps.set rd n ry' hn nf' ng fun b hb z => dj b hb (List.mem_cons_of_mem _ z)
    have na' : a ∉ fp' := fun z => (s2 a z).elim na nag
    refine set_list pins s σ H _ _ v _ _ u Q I rx ry rv ⟨a, xs, _, n, rfl, rfl, hH, by rw [ry'.length]; exact e1, k .non a _ (a :: fp') [] rfl List.mem_cons_self trivial (.lstO upd_same (r2.wr hH trivial na')) .non (List.nodup_cons.mpr ⟨na', n2⟩) .nil (fun _ z => nomatch z) (fun b hb => ?_) (fun _ z => nomatch z)⟩
    rcases List.mem_cons.mp hb with z | z
    · exact .inl (by rw [z]; exact List.mem_cons_self)
    · exact (s2 b z).imp (List.mem_cons_of_mem _) id
  · obtain ⟨kk, e1, e2⟩ := Option.bind_eq_some_iff.mp hf
    split at e2
    · rename_i hz
      cases e2
      obtain ⟨a, es, f, rfl, rfl, hH, hn, r2⟩ := r0.dctOwn
      obtain ⟨na, nf'⟩ := List.nodup_cons.mp nf
      have nag : a ∉ gp := fun z => dj a z List.mem_cons_self
      have rk0 : Rep X.w X.K H [] y dk := by
        have := rk.fp_nil dk _ _ (by
          have : ∀ d : D, d.key? ≠ none → d.isFz = true := fun d => ?_
          · exact this dk (by rw [e1]; exact fun z => nomatch z)
          · exact key_fz d)
        subst this
        exact rk
      obtain ⟨fp', r3, n3, s3⟩ := RepD.set rk0 e1 hz.1 rd r2 nf' ng fun b hb z => dj b hb (List.mem_cons_of_mem _ z)
      have na' : a ∉ fp' := fun z => (s3 a z).elim na nag
      cases rx
      refine set_ok I hu hH hn r2 rk e1 hz.1 ry rv (by rw [r2.length]; exact hz.2) fun s' I' => ⟨_, I', k .non a _ (a :: fp') [] rfl List.mem_cons_self trivial (.dctO upd_same (keysOf_set r2 hn r3) (r3.wr hH trivial na')) .non (List.nodup_cons.mpr ⟨na', n3⟩) .nil (fun _ z => nomatch z) (fun b hb => ?_) (fun _ z => nomatch z)⟩
      rcases List.mem_cons.mp hb with z | z
      · exact .inl (by rw [z]; exact List.mem_cons_self)
      · exact (s3 b z).imp (List.mem_cons_of_mem _) id
    · cases e2
  · cases hf
/-- x[ix] = e -/
def dStore (i : Nat) (te ti : TDE) : TDS := fun Dd ρ => te ρ fun x ρ1 => ∃ d ρ2, takeO x ρ1 = some (d, ρ2) ∧ (∃ d, ρ2.getD i none = some d) ∧ ti ρ2 fun y ρ3 => ∃ dk, y.get ρ3 = some dk ∧ ∃ d0, ρ3.getD i none = some d0 ∧ ∃ d0', stD d0 dk d = some d0' ∧ Dd.nx (ρ3.set i (some d0'))
theorem pd_store {X : Cx} {p : Option V} (i : Nat) {x : Str} {e ix : Expr} {te ti : TDE} {xp tp pos : Pos} (hu : X.A.units + 9 < cLine) (hx : PE X (.Name x xp) (tVar i)) (he : PE X e (tE X.w X.K p te)) (hi : PE X ix (tE X.w X.K p ti))
    (ha : ∀ v, assign (.Subscript (.Name x xp) ix tp) X.env v = (do
      let ov ← holding [v] (eval (.Name x xp) X.env)
      let iv ← holding [v, ov] (eval ix X.env)
      standAt tp
      holding [v, ov, iv] (setItem ov iv v)
      release [v, ov, iv] []) := by intro _; rfl)
    (hs : swapsWithSole [.Subscript (.Name x xp) ix tp] e pos.line X.env = pure false := by rfl) (hw : swappedStores [.Subscript (.Name x xp) ix tp] e X.env = pure none := by rfl) (h1 : (assignEach [.Subscript (.Name x xp) ix tp] X.env).map (·.2) = [assign (.Subscript (.Name x xp) ix tp) X.env] := by rfl) :
    PS X (.Assign [.Subscript (.Name x xp) ix tp] e pos) (tS X.w X.K p (dStore i te ti)) := by
  refine ⟨fun pins s σ H D I ⟨ρ, G, F, Dd, O, h⟩ => ?_⟩
  refine wpAny_Assign_stores (thn ((pd_take he).run pins s σ H (fun v H1 => ∃ d ρ2 G1 fp, (∃ d, ρ2.getD i none = some d) ∧ (ti ρ2 fun y ρ3 => ∃ dk, y.get ρ3 = some dk ∧ ∃ d0, ρ3.getD i none = some d0 ∧ ∃ d0', stD d0 dk d = some d0' ∧ Dd.nx (ρ3.set i (some d0'))) ∧ Fit X.w X.K p H1 σ ρ2 G1 ∧ Evo G H G1 H1 ∧ Nw G H fp ∧ RepOpd X.w X.K H1 σ G1 fp v (.val d)) I
    ⟨ρ, G, onVal fun d ρ2 => (∃ d, ρ2.getD i none = some d) ∧ ti ρ2 fun y ρ3 => ∃ dk, y.get ρ3 = some dk ∧ ∃ d0, ρ3.getD i none = some d0 ∧ ∃ d0', stD d0 dk d = some d0' ∧ Dd.nx (ρ3.set i (some d0')), F, ?_, fun xo ρ1 v1 H1 G1 fp1 h1 F1 e1 n1 r1 => ?_⟩) fun v s1 ⟨vv, H1, I1, rv, d, ρ2, G1, fp, ⟨dx, hdx⟩, h1', F1, e1, n1, r1⟩ => ?_) hs hw
  · refine (show te ρ _ from h)
  · cases xo with
    | slot j => exact h1.elim
    | val d => exact ⟨d, ρ1, G1, fp1, h1.1, h1.2, F1, e1, n1, r1⟩
  rw [h1]
  refine (show wpAny _ _ (assign (.Subscript (.Name x xp) ix tp) X.env v) _ _ s1 from ?_)
  rw [ha]
  obtain ⟨v0, ev, _⟩ := F1.rep i dx (getD_some hdx)
  refine wpAny_bind (wpAny_holding (thn (hx.run pins s1 σ H1 (fun w H2 => w = v0 ∧ H2 = H1) I1 ⟨v0, ev, rfl, rfl⟩) fun ov s2 ⟨ovv, H2, I2, rov, eov, eH⟩ => ?_))
  subst eov eH
  refine wpAny_bind (wpAny_holding (thn (hi.run pins s2 σ H2 (fun y H3 => ∃ yo ρ3 G3 gk, (∃ dk, yo.get ρ3 = some dk ∧ ∃ d0, ρ3.getD i none = some d0 ∧ ∃ d0', stD d0 dk d = some d0' ∧ Dd.nx (ρ3.set i (some d0'))) ∧ Fit X.w X.K p H3 σ ρ3 G3 ∧ Evo G1 H2 G3 H3 ∧ RepOpd X.w X.K H3 σ G3 gk y yo) I2
    ⟨ρ2, G1, _, F1, h1', fun yo ρ3 y H3 G3 gk h3 F3 e3 n3 r3 => ⟨yo, ρ3, G3, gk, h3, F3, e3, r3⟩⟩) fun iv s3 ⟨y, H3, I3, ry, yo, ρ3, G3, gk, ⟨dk, gdk, d0, g0, d0', hst, hn⟩, F3, e3, r3⟩ => ?_))
  obtain ⟨v1, ev1, r0⟩ := F3.rep i d0 (getD_some g0)
  rw [ev] at ev1; cases ev1
  obtain ⟨rd, ndp, apd⟩ := r1.evo F1 e3
  obtain ⟨gk', rk⟩ := r3.rep F3 gdk
  refine wpAny_bind (wpAny_standAt (wpAny_bind (wpAny_holding (thn (st_ok (Q := fun H4 => Dnx D σ H4) hu I3 rov ry rv r0 rk rd (F3.nod i) ndp (fun a ha => apd a ha i) hst (mut_fit F3 (e1.trans e3) ev g0 n1 apd fun u H4 G4 gp4 F4 e4 n4 r4 => O.nx _ _ H4 G4 F4 e4 hn)) fun _ s4 ⟨H4, I4, q4⟩ => ?_))))
  exact wpAny_release ⟨σ, H4, I4, q4⟩
end KW
/-! KWo: join, dict(pairs), displays of dicts, parallel stores. -/
namespace KW
open PySem PySem.Spec L2
open PyProof.Rows hiding St

/-! ### join -/
def joinD : D → List D → Option D
  | .str a, [.lst _ ds] => (strsD ds).bind fun ys => if (ys.map (·.length)).sum + ys.length * a.length ≤ 16777216 then some (.str (Txt.join a ys)) else none
  | .str a, [.tup ds] => (strsD ds).bind fun ys => if (ys.map (·.length)).sum + ys.length * a.length ≤ 16777216 then some (.str (Txt.join a ys)) else none
  | _, _ => none
theorem md_join {X : Cx} : MtR X "str.join" (mD X.w X.K joinD) := by
  intro pins s σ H x xs v us Q I rx rs ⟨fx, dx, ds, d, r0, ra, e, k⟩
  unfold joinD at e
  split at e
  · obtain ⟨ys, e1, e2⟩ := Option.bind_eq_some_iff.mp e
    split at e2
    · cases e2
      cases r0
      obtain ⟨u, fp, rfl, rv⟩ := ra.one
      obtain ⟨a, zs, gp, rfl, hq, r2⟩ := rv.sqL
      exact mt_join pins s σ H _ _ v us Q I rx rs ⟨_, a, ys, rfl, rfl, .inl (by rw [← strs_vals r2 e1]; exact hq), by assumption, res_now k (.str _)⟩
    · cases e2
  · obtain ⟨ys, e1, e2⟩ := Option.bind_eq_some_iff.mp e
    split at e2
    · cases e2
      cases r0
      obtain ⟨u, fp, rfl, rv⟩ := ra.one
      obtain ⟨a, zs, rfl, hq, r2⟩ := rv.sqT
      exact mt_join pins s σ H _ _ v us Q I rx rs ⟨_, a, ys, rfl, rfl, .inr (by rw [← strs_vals r2 e1]; exact hq), by assumption, res_now k (.str _)⟩
    · cases e2
  · cases e

/-! ### dict(pairs) -/
def pairsD : List D → Option (List (D × D))
  | [] => some []
  | .tup [k, v] :: r => (pairsD r).map ((k, v) :: ·)
  | _ => none
/-- a key that may stand in a dict -/
def keyOk (d : D) : Bool := match d.key? with
  | some k => decide (k.depth ≤ 8)
  | none => false
theorem keyOk_of {d : D} (h : keyOk d = true) : ∃ k, d.key? = some k ∧ k.depth ≤ 8 := by
  unfold keyOk at h
  split at h
  · exact ⟨_, by assumption, of_decide_eq_true h⟩
  · cases h
/-- pairs stored one after another -/
def putAll (acc : List (D × D)) (ps : List (D × D)) : List (D × D) := ps.foldl (fun acc p => setK acc p.1 p.2) acc
def mkD (ps : List (D × D)) : List (D × D) := putAll [] ps
theorem setK_length (kd d : D) : ∀ kvs : List (D × D), (setK kvs kd d).length ≤ kvs.length + 1
  | [] => Nat.le_refl _
  | p :: r => by
    unfold setK
    split
    · simp
    · simpa using setK_length kd d r
theorem putAll_length : ∀ (ps acc : List (D × D)), (putAll acc ps).length ≤ acc.length + ps.length
  | [], acc => Nat.le_refl _
  | p :: ps, acc => by
    have h1 := putAll_length ps (setK acc p.1 p.2)
    have h2 := setK_length p.1 p.2 acc
    show (putAll (setK acc p.1 p.2) ps).length ≤ _
    rw [List.length_cons]
    omega
theorem putAll_take {ps acc : List (D × D)} {i : Nat} {p : D × D} (h : ps[i]? = some p) : putAll acc (ps.take (i + 1)) = setK (putAll acc (ps.take i)) p.1 p.2 := by
  unfold putAll
  rw [List.take_add_one, h, List.foldl_append]
  rfl
section
variable {X : Cx} {pins : List (Addr × Obj)} {σ : L2.St} {H : Hp} {s : Shared}
/-- pairs of trees by values: where they stand, what they are -/
theorem pair_items (I : Inv X pins σ H s) : ∀ {ds : List D} {kds : List (D × D)} {xs : List V} {its : List Value}, pairsD ds = some kds → Reps X.w X.K H [] xs ds → Vals xs its →
    ∃ (Ts : List Addr) (ps : List (Value × Value)), Ts.length = kds.length ∧ ps.length = kds.length ∧ its = Ts.map Value.ref ∧ (∀ (j : Nat) (T : Addr) (p : Value × Value), Ts[j]? = some T → ps[j]? = some p → PairAt s.heap T p.1 p.2) ∧
      ∀ (j : Nat) (p : Value × Value), ps[j]? = some p → ∃ (q : D × D) (kv vv : V), kds[j]? = some q ∧ Rep X.w X.K H [] kv q.1 ∧ RelV kv p.1 ∧ Rep X.w X.K H [] vv q.2 ∧ RelV vv p.2
  | [], _, _, _, e, r, rv => by
    cases e
    obtain ⟨_, rfl⟩ := r.nil_inv
    cases rv
    exact ⟨[], [], rfl, rfl, rfl, fun j T p h => by simp at h, fun j p h => by simp at h⟩
  | d :: ds, kds, xs, its, e, r, rv => by
    obtain ⟨v, vr, rfl, r1, r2⟩ := r.cons0
    cases rv with
    | cons rv1 rv2 =>
      obtain ⟨a, b, rfl⟩ : ∃ a b, d = .tup [a, b] := by
        unfold pairsD at e
        split at e
        · rename_i hh; cases hh
        · rename_i hh; cases hh; exact ⟨_, _, rfl⟩
        · cases e
      · 
        obtain ⟨kr, e1, e2⟩ := Option.map_eq_some_iff.mp (show (pairsD ds).map ((a, b) :: ·) = some kds from e)
        subst e2
        obtain ⟨Ts, ps, l1, l2, hi, hp, hq⟩ := pair_items I e1 r2 rv2
        obtain ⟨T, ys, rfl, hT, ry⟩ := r1.sqT
        cases rv1
        obtain ⟨va, vr1, rfl, ra, rb'⟩ := ry.cons0
        obtain ⟨vb, vr2, rfl, rb, rc⟩ := rb'.cons0
        obtain ⟨_, rfl⟩ := rc.nil_inv
        obtain ⟨its2, rvT, pT, _⟩ := I.tuple hT
        obtain ⟨u1, u2, rfl, ru1, ru2⟩ := vals2 rvT
        refine ⟨T :: Ts, (u1, u2) :: ps, by simp [l1], by simp [l2], by rw [hi]; rfl, fun j T' p h1 h2 => ?_, fun j p h => ?_⟩
        · cases j with
          | zero =>
            simp at h1 h2
            subst h1 h2
            exact .inl pT
          | succ j => exact hp j T' p (by simpa using h1) (by simpa using h2)
        · cases j with
          | zero =>
            simp at h
            subst h
            exact ⟨(a, b), va, vb, rfl, ra, ru1, rb, ru2⟩
          | succ j =>
            obtain ⟨q, kv, vv, h1, h2⟩ := hq j p (by simpa using h)
            exact ⟨q, kv, vv, by simpa using h1, h2⟩
end

/-- a dict being filled -/
def FillD (w : World) (K : PySem.W.Frag) (H : Hp) (d : Addr) (kvs : List (D × D)) (h : Heap) : Prop := ∃ es, RDp d es h ∧ (KW.keysOf kvs).Nodup ∧ RepD w K H [] es kvs
theorem seq_keep {s : Shared} {d : Addr} {h : Heap} (hd : s.heap.objs.size ≤ d) (hk : ∀ b o, b ≠ d → s.heap.get? b = some o → h.get? b = some o) : ∀ b o vs n, s.heap.get? b = some o → o.data = .seq vs n → h.get? b = some o := fun b o vs n e _ => hk b o (fun z => by rw [z] at e; exact absurd (Heap.lt_size e) (Nat.not_lt.mpr hd)) e
theorem KeysAt.at {w : World} {h h' : Heap} (k : ∀ b o vs n, h.get? b = some o → o.data = .seq vs n → h'.get? b = some o) : ∀ {es : List DictEntry} {ks : List NestedKey}, KeysAt w h es ks → KeysAt w h' es ks
  | _, _, .nil => .nil
  | _, _, .cons ⟨a, b, c⟩ t => .cons ⟨a, NestedIs.at k _ _ b, c⟩ (KeysAt.at k t)
theorem setK_keysOf {w : World} {K : PySem.W.Frag} {H : Hp} {es : List (Int × V × V)} {kvs : List (D × D)} {kd d : D} {kk : NestedKey} {kv v : V} (r : RepD w K H [] es kvs) (hn : (KW.keysOf kvs).Nodup) (rk : Rep w K H [] kv kd) (e : kd.key? = some kk) (hd : kk.depth ≤ 8) (rv : Rep w K H [] v d) :
    RepD w K H [] (putV es (atK (keysN kvs) kk) (kk.hash w, kv, v)) (setK kvs kd d) ∧ (KW.keysOf (setK kvs kd d)).Nodup := by
  obtain ⟨fp', r', _, s'⟩ := RepD.set rk e hd rv r .nil .nil (fun _ z => nomatch z)
  have : fp' = [] := List.eq_nil_iff_forall_not_mem.mpr fun a ha => (s' a ha).elim (fun z => nomatch z) (fun z => nomatch z)
  subst this
  exact ⟨r', keysOf_set r hn r'⟩
/-- a pair more -/
theorem fill_step {X : Cx} {pins : List (Addr × Obj)} {σ : L2.St} {H : Hp} {s0 : Shared} (I : Inv X pins σ H s0) {A : Around} {E : Value → Shared → Prop} {d : Addr} (hd : s0.heap.objs.size ≤ d) {s : Shared} (hk : ∀ b o, b ≠ d → s0.heap.get? b = some o → s.heap.get? b = some o) {kvs : List (D × D)} {kd vd : D} {kv vv : V} {ku vu : Value} (hu : A.units + 8 < cLine)
    (x : FillD X.w X.K H d kvs s.heap) (ok : keyOk kd = true) (rk : Rep X.w X.K H [] kv kd) (ru : RelV kv ku) (rv : Rep X.w X.K H [] vv vd) (rw' : RelV vv vu) (hz : kvs.length < sizeLine) {Q : Unit → Shared → Prop} (q : ∀ h' tk, FillD X.w X.K H d (setK kvs kd vd) h' → Heap.SameBut d s.heap h' → Q () { s with heap := h', toks := tk }) :
    wpAny (model X.prog X.w) A (dictSet d ku vu) Q E s := by
  obtain ⟨es, ⟨lo, hl, eo, ep, hr, hp⟩, hn, r2⟩ := x
  obtain ⟨kk, ek, hdp⟩ := keyOk_of ok
  have e1 : es.length = eo.size := by rw [paired_length hp]; simp
  have sk := seq_keep hd hk
  obtain ⟨r3, n3⟩ := setK_keysOf r2 hn rk ek hdp rv
  refine dictSet_key hr (KeysAt.at sk (r2.keysAt I hp)) (r2.nodup hn) hu (NestedIs.at sk _ _ (rk.nested I kd _ _ _ _ ek ru)) hdp (by rw [← e1]; exact hl) fun h' es' ep' t hr' sb eq => q h' t ⟨_, ⟨lo, ?_, es', ep', hr', ?_⟩, n3, r3⟩ sb
  · have h1 := putV_length (es := es) (i? := atK (keysN kvs) kk) (e := (kk.hash X.w, kv, vv))
    have h2 := r2.length
    omega
  · rw [eq]
    exact putV_paired hp ⟨rfl, ru, rw'⟩
def dictD : List D → Option D
  | [.lst _ ds] => if D.isFzs ds = true then (pairsD ds).bind fun ps => if (ps.all fun p => keyOk p.1) = true ∧ ps.length ≤ sizeLine then some (.dct true (mkD ps)) else none else none
  | _ => none
section
variable {X : Cx}
theorem dict_core (hc : X.calm = true) (hu : X.A.units + 11 < cLine) {pins : List (Addr × Obj)} {s : Shared} {σ : L2.St} {H : Hp} {Q : VK} (I : Inv X pins σ H s) {a : Addr} {T : String} {ds : List D} {kds : List (D × D)} {xs : List V} {its : List Value}
    (P : ∀ (Ts : Nat → Addr) (ps : List (Value × Value)), PairItems s.heap its.toArray Ts ps → ∃ OK : Heap → Prop, OK s.heap ∧ PairArg X.prog X.w T a (a :: (List.range ps.length).map Ts) [] ps.length (PairRel ps) OK)
    (e : pairsD ds = some kds) (r : Reps X.w X.K H [] xs ds) (rv : Vals xs its) (hok : (kds.all fun p => keyOk p.1) = true) (hz : kds.length ≤ sizeLine) (k : Res X.w X.K H (.dct true (mkD kds)) Q) :
    wpAny (model X.prog X.w) X.A (call (.type "dict") [.ref a]) (EP X pins σ Q) X.xe s := by
  obtain ⟨Ts, ps, l1, l2, hi, hp, hq⟩ := pair_items I e r rv
  obtain ⟨OK, ok, PA⟩ := P (fun j => Ts.getD j 0) ps ⟨by rw [hi]; simp [l1, l2], fun j kv vv hj => by
    have hj' : j < Ts.length := by have := (List.getElem?_eq_some_iff.mp hj).1; omega
    have hT : Ts[j]? = some Ts[j] := List.getElem?_eq_getElem hj'
    have eT : Ts.getD j 0 = Ts[j] := by rw [List.getD_eq_getElem?_getD, hT]; rfl
    show its.toArray[j]? = some (Value.ref (Ts.getD j 0)) ∧ PairAt s.heap (Ts.getD j 0) kv vv
    rw [eT]
    refine ⟨?_, hp j _ (kv, vv) hT hj⟩
    rw [hi]
    simp [hT]⟩
  refine call_dict_arg PA ok fun s1 hs1 hdf ok1 => ?_
  have hd := Nat.le_refl s.heap.objs.size
  refine updateFrom_arg (A := X.A.in1) (Tab := fun i h => FillD X.w X.K H s.heap.objs.size (putAll [] (kds.take i)) h ∧ ∀ b o, b ≠ s.heap.objs.size → s.heap.get? b = some o → h.get? b = some o) PA .none (I.ok.hd hc) ok1 hdf ?_ (fun i h ⟨⟨es, ⟨_, _, _, _, ⟨o, ho, _⟩, _⟩, _⟩, _⟩ => Heap.lt_size ho) ?_ ?_ ?_
  · subst hs1
    refine ⟨⟨[], ⟨?_, Nat.zero_le _, #[], 0, ⟨_, Heap.get?_push_size _ rfl, ⟨rfl, rfl, rfl⟩, rfl⟩, .nil⟩, by simp [putAll, KW.keysOf], .nil⟩, fun b o _ e => Heap.get?_push_of_some _ e⟩
    have := I.big
    exact beq_eq_false_iff_ne.mpr (Nat.ne_of_gt this)
  · rintro i h h' wr' hdw hw ⟨⟨es, ⟨lo, hl, eo, ep, ⟨o, ho, hr⟩, hp'⟩, hn, r2⟩, hk⟩ kk
    have nw : ∀ b o, b ≠ s.heap.objs.size → s.heap.get? b = some o → b ∉ wr' := fun b o hb e hm => by
      rcases hw b hm with z | z
      · cases z
      · subst hs1
        have h1 : (s.heap.push { cls := .type "dict", data := .dict #[] }).get? b = some o := Heap.get?_push_of_some _ e
        rw [show (s.heap.push { cls := .type "dict", data := .dict #[] }).get? b = none from z] at h1
        cases h1
    exact ⟨⟨es, ⟨lo, hl, eo, ep, ⟨o, kk _ o hdw ho, hr⟩, hp'⟩, hn, r2⟩, fun b o hb e => kk b o (nw b o hb e) (hk b o hb e)⟩
  · rintro i ku vu s' Q' E' hi' hrel ⟨tb, hk⟩ _ hQ
    obtain ⟨q, kv, vv, h1, h2, h3, h4, h5⟩ := hq i (ku, vu) hrel
    have hlen : (putAll [] (kds.take i)).length < sizeLine := by
      have := putAll_length (kds.take i) []
      rw [List.length_take] at this
      simp only [List.length_nil] at this
      have hlt := (List.getElem?_eq_some_iff.mp h1).1
      omega
    refine fill_step I hd hk (by simp only [Around.in1_units]; omega) tb (List.all_eq_true.mp hok q (List.mem_of_getElem? h1)) h2 h3 h4 h5 hlen fun h' tk x' sb => hQ h' tk ⟨?_, fun b o hb e => (sb.2 b hb).trans (hk b o hb e)⟩ sb
    rw [putAll_take h1]
    exact x'
  · rintro h' tk ⟨tb, hk⟩ _
    have e2 : kds.take ps.length = kds := List.take_of_length_le (by omega)
    rw [e2] at tb
    obtain ⟨es, hr, hn, r2⟩ := tb
    have I1 : Inv X pins σ (upd H s.heap.objs.size (RD s.heap.objs.size es)) { s with heap := h', toks := tk } := I.laid (fun b u e => hk b u (Nat.ne_of_lt (Heap.lt_size e)) e) (Nat.le_refl _) (RDp.ok hr)
    subst hs1
    exact ⟨rfl, .ref _, _, I1, rfl, k _ _ [s.heap.objs.size] (same_upd I.fresh) (fun b hb => by rw [List.mem_singleton.mp hb]; exact I.fresh) (by simp) (.dctO upd_same hn (r2.mono (fun b o h _ => same_upd I.fresh b o h) _ _ _ fun _ z => nomatch z))⟩
end

section
variable {X : Cx}
theorem cd_dict (hc : X.calm = true) (hu : X.A.units + 11 < cLine) : CallR X (.type "dict") (cD X.w X.K dictD) := by
  intro pins s σ H xs us Q I r ⟨ds, d, ra, e, k⟩
  unfold dictD at e
  split at e
  · split at e
    · obtain ⟨ps, e1, e2⟩ := Option.bind_eq_some_iff.mp e
      split at e2
      · rename_i hz hok
        cases e2
        obtain ⟨v, fp, rfl, rv⟩ := ra.one
        obtain ⟨a, ys, gp, rfl, hq, r2⟩ := rv.sqL
        obtain ⟨u, rfl, ru⟩ := vals1 r
        cases ru
        obtain ⟨its, rI, ⟨o, n, ho, hcl, hdi, hda⟩, _⟩ := I.list hq
        exact dict_core hc hu I (fun Ts ps' hp => ⟨_, ⟨⟨o, n, ho, hcl, hdi, hda⟩, hp⟩, PairArg.list a its.toArray Ts ps'⟩) e1 (r2.fz0 hz) rI hok.1 hok.2 k
      · cases e2
    · cases e
  · cases e
end
/-! ### a, b = x, y -/
/-- slot_set, and what the slots own then -/
theorem slot_set' {w : World} {K : PySem.W.Frag} {p : Option V} {σ : L2.St} {ρ1 : Env} {H H1 : Hp} {G G1 : Fps} {fp1 : List Addr} {v1 : V} {d : D} {i : Nat} (hp : i ≠ 0 ∨ p = none) (F1 : Fit w K p H1 σ ρ1 G1) (e1 : Evo G H G1 H1) (n1 : Nw G H fp1) (r1 : RepOpd w K H1 σ G1 fp1 v1 (.val d)) :
    ∃ G', Fit w K p H1 (σ.set i (some v1)) (ρ1.set i (some d)) G' ∧ Evo G H G' H1 ∧ ∀ k a, a ∈ G' k → a ∈ G1 k ∨ a ∈ fp1 := by
  obtain ⟨r, nd, ap⟩ := r1
  by_cases hi : i < ρ1.length
  · refine ⟨_, F1.put hi r nd (fun a ha j _ => ap a ha j) (fun u hu h0 => ?_), ⟨e1.keep, fun k a z => ?_, e1.dom⟩, fun k a z => ?_⟩
    · rcases hp with z | z
      · exact absurd h0 z
      · rw [z] at hu; cases hu
    · by_cases ek : k = i
      · subst ek; rw [setF_same] at z; exact n1 a z
      · rw [setF_ne ek] at z; exact e1.new k a z
    · by_cases ek : k = i
      · subst ek; rw [setF_same] at z; exact .inr z
      · rw [setF_ne ek] at z; exact .inl z
  · refine ⟨G1, ?_, e1, fun k a z => .inl z⟩
    rw [List.set_eq_of_length_le (by rw [← F1.len]; omega), List.set_eq_of_length_le (by omega)]
    exact F1
def dPar (i j : Nat) (t : TDZ) : TDS := fun Dd ρ => t ρ fun ds ρ1 => ∃ a b, ds = [a, b] ∧ Dd.nx ((ρ1.set i (some a)).set j (some b))
theorem pd_par {X : Cx} {p : Option V} (i j : Nat) {x y : Str} {a b : Expr} {t : TDZ} {px py pt pos : Pos} {kt k2 pt2} (hc : X.calm = true) (hN : X.N.Nodup) (hpi : i ≠ 0 ∨ p = none) (hpj : j ≠ 0 ∨ p = none) (ha : PA X [a, b] (tZ X.w X.K p t)) (hi : X.N[i]? = some x := by rfl) (hj : X.N[j]? = some y := by rfl) (hij : i ≠ j := by decide)
    (hx : X.env.scope.names.lookup x = some .local := by rfl) (hy : X.env.scope.names.lookup y = some .local := by rfl)
    (hw : swappedStores [.Tuple [.Name x px, .Name y py] kt pt] (.Tuple [a, b] k2 pt2) X.env = pure (some [x, y]) := by rfl)
    (hs : swapsWithSole [.Tuple [.Name x px, .Name y py] kt pt] (.Tuple [a, b] k2 pt2) pos.line X.env = pure false := by rfl) :
    PS X (.Assign [.Tuple [.Name x px, .Name y py] kt pt] (.Tuple [a, b] k2 pt2) pos) (tS X.w X.K p (dPar i j t)) := by
  refine PS.imp (ps_par hc hN hi hj hij hx hy ha hw hs) fun D σ H ⟨ρ, G, F, Dd, O, h⟩ => ⟨ρ, G, _, F, h, fun ds ρ1 vs H1 G1 fp1 h1 F1 e1 n1 r1 nd1 ap1 => ?_⟩
  obtain ⟨da, db, rfl, hn⟩ := h1
  obtain ⟨va, vr, f, g, rfl, rfl, ra, rb'⟩ := r1.cons_inv
  obtain ⟨vb, rfl, rb⟩ := rb'.ofNil
  obtain ⟨nf, ng, dj⟩ := List.nodup_append.mp nd1
  refine ⟨va, vb, rfl, ?_⟩
  obtain ⟨G2, F2, e2, s2⟩ := slot_set' hpi F1 e1 (fun b hb => n1 b (List.mem_append_left _ hb)) ⟨ra, nf, fun b hb => ap1 b (List.mem_append_left _ hb)⟩
  have ap2 : ∀ b ∈ g, ∀ k, b ∉ G2 k := fun b hb k z => by
    rcases s2 k b z with z | z
    · exact ap1 b (List.mem_append_right _ hb) k z
    · exact dj b z b hb rfl
  obtain ⟨G3, F3, e3, _⟩ := slot_set' hpj F2 e2 (fun b hb => n1 b (List.mem_append_right _ hb)) ⟨rb, ng, ap2⟩
  exact O.nx _ _ H1 G3 F3 e3 hn
/-! ### {} -/
theorem pd_dct0 {X : Cx} {p : Option V} {pos : Pos} : PE X (.Dict [] [] pos) (tE X.w X.K p (dC (.dct true []))) := by
  refine ⟨fun pins s σ H Q I ⟨ρ, G, P, F, k, q⟩ => ?_⟩
  have hn := I.fresh
  have hr : RDp s.heap.objs.size [] (s.heap.push { cls := .type "dict", data := .dict #[] }) := ⟨beq_eq_false_iff_ne.mpr (Nat.ne_of_gt I.big), Nat.zero_le _, #[], 0, ⟨_, Heap.get?_push_size _ rfl, ⟨rfl, rfl, rfl⟩, rfl⟩, .nil⟩
  have sm := same_upd (o := RD s.heap.objs.size []) hn
  exact wpAny_Dict_empty ⟨.ref s.heap.objs.size, _, I.laid (a := s.heap.objs.size) (o := RD s.heap.objs.size []) (t' := s.toks) (fun _ _ q => Heap.get?_push_of_some _ q) (Nat.le_refl _) (RDp.ok hr), rfl,
    q _ _ _ _ G [s.heap.objs.size] k (F.grow sm) (.grow sm) (.fresh fun a ha => by rw [List.mem_singleton.mp ha]; exact hn) ⟨.dctO upd_same .nil .nil, by simp, fun a ha i => by rw [List.mem_singleton.mp ha]; exact F.fresh hn i⟩⟩
end KW
/-! KWp: comprehensions with two fors. -/
namespace KW
open PySem PySem.Spec L2
open PyProof.Rows hiding St

/-- a comprehension under way: the list at qD holds acc -/
structure SG (w : World) (K : PySem.W.Frag) (p : Option V) (G1 : Fps) (H1 : Hp) (qD : Addr) (σ : L2.St) (ρ : Env) (acc : List D) (H : Hp) (G : Fps) (xs : List V) (fp : List Addr) : Prop where
  fit : Fit w K p H σ ρ G
  evo : Evo G1 H1 G H
  at_ : H qD = some (.lst xs)
  reps : Reps w K H fp xs acc
  nod : fp.Nodup
  ap : ∀ a ∈ fp, ∀ i, a ∉ G i
  nw : Nw G1 H1 fp
  nq : qD ∉ fp
  nG : ∀ i, qD ∉ G i
section
variable {w : World} {K : PySem.W.Frag} {p : Option V} {G1 G G' : Fps} {H1 H H' : Hp} {qD : Addr} {σ σ' : L2.St} {ρ ρ' : Env} {acc : List D} {xs : List V} {fp : List Addr}
theorem SG.step (S : SG w K p G1 H1 qD σ ρ acc H G xs fp) (F : Fit w K p H' σ' ρ' G') (e : Evo G H G' H') : SG w K p G1 H1 qD σ' ρ' acc H' G' xs fp where
  fit := F
  evo := S.evo.trans e
  at_ := e.keep qD _ S.at_ S.nG
  reps := S.reps.evo S.fit e S.ap
  nod := S.nod
  ap := fun a ha => by
    obtain ⟨o, ho, _⟩ := S.reps.own acc _ _ a ha
    exact S.fit.apart e ho (S.ap a ha)
  nw := S.nw
  nq := S.nq
  nG := S.fit.apart e S.at_ S.nG
theorem SG.wipe (S : SG w K p G1 H1 qD σ ρ acc H G xs fp) {vs : List Nat} (hl : σ'.length = σ.length) (hs : ∀ j, j ∉ vs → σ'[j]? = σ[j]?) (hp : 0 ∉ vs ∨ p = none) : SG w K p G1 H1 qD σ' (wipeE ρ vs) acc H (wipeF G vs) xs fp :=
  S.step (S.fit.wipe hl hs hp) ((Evo.refl G H).sub sub_wipeF)
theorem SG.push (hD : H1 qD = none) (S : SG w K p G1 H1 qD σ ρ acc H G xs fp) {fp6 : List Addr} {v : V} {d : D} {H0 : Hp} {G0 : Fps} (n6 : Nw G0 H0 fp6) (e0 : Evo G1 H1 G0 H0) (hq : H0 qD = some (.lst xs)) (hqG : ∀ i, qD ∉ G0 i) (ha0 : ∀ a ∈ fp, (∃ o, H0 a = some o) ∧ ∀ i, a ∉ G0 i) (r : RepOpd w K H σ G fp6 v (.val d)) :
    SG w K p G1 H1 qD σ ρ (acc ++ [d]) (upd H qD (.lst (xs ++ [v]))) G (xs ++ [v]) (fp ++ (fp6 ++ [])) := by
  obtain ⟨r6, nd6, ap6⟩ := r
  have nD6 : qD ∉ fp6 := n6.ne hq hqG
  refine ⟨S.fit.off S.at_ S.nG, ⟨fun a o ho n => ?_, S.evo.new, fun a o ho => ?_⟩, upd_same, (S.reps.off S.at_ S.nq).append (.cons (r6.mono (fun a u hu pm => by rw [upd_ne (fun z => by rw [z, S.at_] at hu; cases hu; exact pm)]; exact hu) d _ _ fun a ha u hu => by rw [upd_ne (fun z => nD6 (by rw [← z]; exact ha))]; exact hu) .nil), ?_, ?_, ?_, ?_, S.nG⟩
  · rw [upd_ne (fun z => by rw [z, hD] at ho; cases ho)]
    exact S.evo.keep a o ho n
  · by_cases ea : a = qD
    · exact ⟨_, by rw [ea]; exact upd_same⟩
    · rw [upd_ne ea]; exact S.evo.dom a o ho
  · rw [List.append_nil]
    refine List.nodup_append.mpr ⟨S.nod, nd6, fun a ha b hb z => ?_⟩
    subst z
    obtain ⟨⟨o, ho⟩, hn⟩ := ha0 a ha
    exact n6.ne ho hn hb
  · intro a ha i z
    rw [List.append_nil] at ha
    rcases List.mem_append.mp ha with y | y
    · exact S.ap a y i z
    · exact ap6 a y i z
  · rw [List.append_nil]
    exact S.nw.append (n6.back e0)
  · rw [List.append_nil]
    exact fun z => (List.mem_append.mp z).elim S.nq nD6
end
mutual
/-- the turns of [.. for .. for ..] -/
def compO (g : TGD) (tt : TDT) (ti1 : TDI) (g1 : TGD) (tt1 : TDT) (te : TDE) (vs vs1 : List Nat) (Q : List D → Env → Prop) : List D → List D → Env → Prop
  | [], acc, ρ => Q acc (wipeE ρ vs)
  | d :: ds, acc, ρ => g d (wipeE ρ vs) fun ρ1 => tt ρ1 fun b ρ2 => if b = true then ti1 ρ2 fun items ρ3 => compN g1 tt1 te vs1 (fun acc' ρ4 => compO g tt ti1 g1 tt1 te vs vs1 Q ds acc' ρ4) items acc ρ3 else compO g tt ti1 g1 tt1 te vs vs1 Q ds acc ρ2
def compN (g1 : TGD) (tt1 : TDT) (te : TDE) (vs1 : List Nat) (Q : List D → Env → Prop) : List D → List D → Env → Prop
  | [], acc, ρ => Q acc (wipeE ρ vs1)
  | d :: ds, acc, ρ => g1 d (wipeE ρ vs1) fun ρ1 => tt1 ρ1 fun b ρ2 => if b = true then te ρ2 fun x ρ3 => ∃ dy ρ4, takeO x ρ3 = some (dy, ρ4) ∧ acc.length < sizeLine ∧ compN g1 tt1 te vs1 Q ds (acc ++ [dy]) ρ4 else compN g1 tt1 te vs1 Q ds acc ρ2
end

def dComp2 (ti : TDI) (g : TGD) (tt : TDT) (ti1 : TDI) (g1 : TGD) (tt1 : TDT) (te : TDE) (vs vs1 : List Nat) : TDE := fun ρ Q => ti ρ fun items ρ1 => compO g tt ti1 g1 tt1 te vs vs1 (fun acc ρ2 => Q (.val (.lst true acc)) ρ2) items [] ρ1
theorem wipeE_wipeE (ρ : Env) (vs : List Nat) : wipeE (wipeE ρ vs) vs = wipeE ρ vs := List.ext_getElem? fun j => by rw [wipeE_get, wipeE_get, wipeE_length]; split <;> rfl
theorem comp_lc2 {w : World} {K : PySem.W.Frag} {p : Option V} {ti ti1 : TDI} {g g1 : TGD} {tt tt1 : TDT} {te : TDE} {vs vs1 ws ws1 : List Nat} (hp : 0 ∉ vs ∨ p = none) (hsub : ∀ j ∈ ws, j ∈ vs) (hsub1 : ∀ j ∈ ws1, j ∈ vs1) (hv : ∀ j ∈ vs1, j ∈ vs) {σ : L2.St} {H : Hp} {Q : VK} (h : tE w K p (dComp2 ti g tt ti1 g1 tt1 te vs vs1) σ H Q) :
    tLc2 (tI w K p ti) (tG w K p ws g) (tT w K p tt) (tI w K p ti1) (tG w K p ws1 g1) (tT w K p tt1) (tE w K p (dTake te)) vs vs1 σ H Q := by
  have hp1 : 0 ∉ vs1 ∨ p = none := hp.imp (fun z y => z (hv 0 y)) id
  obtain ⟨ρ, G, P, F, k, q⟩ := h
  refine ⟨ρ, G, _, F, k, fun items ρ1 J H1 G1 h1 F1 e1 hJ qD hD => ?_⟩
  let QQ : List D → Env → Prop := fun acc ρ2 => P (.val (.lst true acc)) ρ2
  let Good : List D → Hp → Prop := fun left H2 => ∃ ρ2 acc G2 xs fp, SG w K p G1 H1 qD σ (wipeE ρ2 vs) acc H2 G2 xs fp ∧ compO g tt ti1 g1 tt1 te vs vs1 QQ left acc ρ2
  have sD := same_upd (o := .lst []) hD
  refine ⟨fun i m H2 => m = items.length - i ∧ i ≤ items.length ∧ Good (items.drop i) H2, ⟨_, rfl, Nat.zero_le _, ρ1, [], _, [], [], ⟨(F1.grow sD).wipe rfl (fun _ _ => rfl) hp, (Evo.grow sD).sub sub_wipeF, upd_same, .nil, .nil, (fun _ z => nomatch z), .nil, (fun z => nomatch z), fun i z => ?_⟩, h1⟩, ?_⟩
  · obtain ⟨j, hj⟩ := sub_wipeF i qD z
    exact F1.fresh hD j hj
  rintro i m H2 ⟨rfl, hi, ρ2, acc, G2, xs, fp, S, h2⟩
  obtain ⟨go, stop⟩ := hJ H2 (F1.perm S.evo)
  by_cases hlt : i < items.length
  · refine .inr ⟨(go i items[i] (List.getElem?_eq_getElem hlt)).1, Good (items.drop (i + 1)), fun H' z => ⟨items.length - (i + 1), by omega, rfl, hlt, z⟩, fun x H3 y => ?_⟩
    obtain ⟨s3, r3⟩ := (go i items[i] (List.getElem?_eq_getElem hlt)).2 x H3 y
    rw [List.drop_eq_getElem_cons hlt, compO] at h2
    have S4 := (S.step (S.fit.grow s3) (.grow s3)).wipe (σ' := wipe σ vs) (vs := vs) (wipe_length _ _) (fun j hj => by rw [wipe_get, if_neg hj]) hp
    rw [wipeE_wipeE] at S4
    refine ⟨items[i], wipeE ρ2 vs, _, _, S4.fit, r3, h2, fun ρ4 σ4 G4 h4 F4 n4 s4 => ⟨by rw [wipe_of_same s4 hsub, wipe_wipe], ρ4, G4, _, F4, h4, fun b ρ5 H5 G5 h5 F5 e5 => ?_⟩⟩
    have S6 := (S4.step F4 ((Evo.refl _ _).sub n4)).step F5 e5
    have hl4 : σ.length = σ4.length := by
      have := congrArg List.length (wipe_of_same s4 hsub)
      rw [wipe_length, wipe_length, wipe_length] at this
      exact this.symm
    have ha4 : ∀ j, j ∉ vs → σ[j]? = σ4[j]? := fun j hj => by
      have a1 := s4.2 j fun z => hj (hsub j z)
      rw [wipe_get, if_neg hj] at a1
      exact a1.symm
    cases b with
    | false => exact iteF ⟨ρ5, acc, _, xs, fp, S6.wipe hl4 ha4 hp, h5⟩
    | true =>
      refine iteT ⟨ρ5, G5, _, S6.fit, h5, fun items1 ρ6 J1 H6 G6 h6 F6 e6 hJ1 => ?_⟩
      have S7 := S6.step F6 e6
      let Good1 : List D → Hp → Prop := fun left H7 => ∃ ρ7 acc7 G7 xs7 fp7, SG w K p G1 H1 qD σ4 (wipeE ρ7 vs1) acc7 H7 G7 xs7 fp7 ∧ (∀ a o, H6 a = some o → Perm o → H7 a = some o) ∧ compN g1 tt1 te vs1 (fun acc' ρ8 => compO g tt ti1 g1 tt1 te vs vs1 QQ (items.drop (i + 1)) acc' ρ8) left acc7 ρ7
      refine ⟨fun j k H7 => k = items1.length - j ∧ j ≤ items1.length ∧ Good1 (items1.drop j) H7, ⟨_, rfl, Nat.zero_le _, ρ6, acc, _, xs, fp, S7.wipe rfl (fun _ _ => rfl) hp1, fun _ _ z _ => z, h6⟩, ?_⟩
      rintro j k H7 ⟨rfl, hj, ρ7, acc7, G7, xs7, fp7, S8, pm8, h8⟩
      obtain ⟨go1, stop1⟩ := hJ1 H7 pm8
      by_cases hlt1 : j < items1.length
      · refine .inr ⟨(go1 j items1[j] (List.getElem?_eq_getElem hlt1)).1, Good1 (items1.drop (j + 1)), fun H' z => ⟨items1.length - (j + 1), by omega, rfl, hlt1, z⟩, fun x1 H8 y1 => ?_⟩
        obtain ⟨s8, r8⟩ := (go1 j items1[j] (List.getElem?_eq_getElem hlt1)).2 x1 H8 y1
        rw [List.drop_eq_getElem_cons hlt1, compN] at h8
        have S10 := (S8.step (S8.fit.grow s8) (.grow s8)).wipe (σ' := wipe σ4 vs1) (vs := vs1) (wipe_length _ _) (fun j hj => by rw [wipe_get, if_neg hj]) hp1
        rw [wipeE_wipeE] at S10
        refine ⟨items1[j], wipeE ρ7 vs1, _, _, S10.fit, r8, h8, fun ρ9 σ9 G9 h9 F9 n9 s9 => ⟨by rw [wipe_of_same s9 hsub1, wipe_wipe], ρ9, G9, _, F9, h9, fun b1 ρ10 H10 G10 h10 F10 e10 => ?_⟩⟩
        have S11 := S10.step F9 ((Evo.refl _ _).sub n9)
        have S12 := S11.step F10 e10
        have hl9 : σ4.length = σ9.length := by
          have := congrArg List.length (wipe_of_same s9 hsub1)
          rw [wipe_length, wipe_length, wipe_length] at this
          exact this.symm
        have ha9 : ∀ j, j ∉ vs1 → σ4[j]? = σ9[j]? := fun j hj => by
          have a1 := s9.2 j fun z => hj (hsub1 j z)
          rw [wipe_get, if_neg hj] at a1
          exact a1.symm
        have pm10 : ∀ a o, H6 a = some o → Perm o → H10 a = some o := fun a o ho hpm => S11.fit.perm e10 a o (s8 a o (pm8 a o ho hpm)) hpm
        cases b1 with
        | false => exact iteF ⟨ρ10, acc7, _, xs7, fp7, S12.wipe hl9 ha9 hp1, pm10, h10⟩
        | true =>
          refine iteT ⟨ρ10, G10, onVal fun dy ρ11 => acc7.length < sizeLine ∧ compN g1 tt1 te vs1 (fun acc' ρ8 => compO g tt ti1 g1 tt1 te vs vs1 QQ (items.drop (i + 1)) acc' ρ8) (items1.drop (j + 1)) (acc7 ++ [dy]) ρ11, S12.fit, h10, fun xo ρ11 v11 H11 G11 fp11 h11 F11 e11 n11 r11 => ?_⟩
          cases xo with
          | slot l => exact h11.elim
          | val dy =>
            obtain ⟨hz, h11⟩ := h11
            have S13 := S12.step F11 e11
            have S14 := S13.push hD n11 S12.evo S12.at_ S12.nG (fun a ha => ⟨let ⟨o, ho, _⟩ := S12.reps.own acc7 _ _ a ha; ⟨o, ho⟩, S12.ap a ha⟩) r11
            refine ⟨xs7, S13.at_, by rw [S13.reps.length]; exact hz, ρ11, acc7 ++ [dy], _, _, _, S14.wipe hl9 ha9 hp1, fun a o ho hpm => ?_, h11⟩
            have hh := S12.fit.perm e11 a o (pm10 a o ho hpm) hpm
            rw [upd_ne (fun z => by rw [z, S13.at_] at hh; cases hh; exact hpm)]
            exact hh
      · have e : j = items1.length := by omega
        subst e
        rw [List.drop_length, compN] at h8
        exact .inl ⟨stop1, wipeE ρ7 vs1, acc7, _, xs7, fp7, S8.wipe hl4 ha4 hp, h8⟩
  · have e : i = items.length := by omega
    subst e
    rw [List.drop_length, compO] at h2
    refine .inl ⟨stop, q _ _ (.ref qD) H2 G2 (qD :: fp) h2 S.fit (e1.trans S.evo) (fun a ha => ?_) ⟨.lstO S.at_ S.reps, List.nodup_cons.mpr ⟨S.nq, S.nod⟩, fun a ha i => ?_⟩⟩
    · rcases List.mem_cons.mp ha with rfl | ha
      · exact .inr (e1.free hD)
      · exact (S.nw.back e1) a ha
    · rcases List.mem_cons.mp ha with rfl | ha
      · exact S.nG i
      · exact S.ap a ha i
end KW
/-! KWq: repr; slices by a step; two fors; constants of the module. -/
namespace KW
open PySem PySem.Spec L2
open PyProof.Rows hiding St

/-! ### repr -/
/-- the modules' table is among what is written -/
def SysD (K : PySem.W.Frag) : Prop := ∃ o : Obj, K.lookup sysModules = some o ∧ o.cls = .type "dict"
section
variable {X : Cx} {pins : List (Addr × Obj)} {σ : L2.St} {H : Hp} {s : Shared}
theorem SysD.ne (h : SysD X.K) (I : Inv X pins σ H s) {a : Addr} {o : Obj} (e : s.heap.get? a = some o) (hc : o.cls = .type "list") : sysModules ≠ a := fun z => by
  obtain ⟨q, hq, hd⟩ := h
  have e2 := I.kIn _ _ hq
  rw [z, e] at e2
  cases e2
  rw [hc] at hd
  exact absurd hd (by decide)
mutual
theorem Rep.readsS (I : Inv X pins σ H s) (hS : SysD X.K) : ∀ (d : D) (fp : List Addr) (v : V) (u : Value), Rep X.w X.K H fp v d → d.plain = true → RelV v u → ∃ as, Reads s.heap u d.py as ∧ sysModules ∉ as
  | .non, _, _, _, h, _, r => by cases h; cases r; exact ⟨_, .none, by simp⟩
  | .bl _, _, _, _, h, _, r => by cases h; cases r; exact ⟨_, .bool _, by simp⟩
  | .int _, _, _, _, h, _, r => by cases h; obtain ⟨t, rfl⟩ := r; exact ⟨_, .int _ _, by simp⟩
  | .str _, _, _, _, h, _, r => by cases h; obtain ⟨t, rfl⟩ := r; exact ⟨_, .str _ _, by simp⟩
  | .opq _, _, _, _, _, hp, _ => by simp [D.plain] at hp
  | .tup ds, _, _, _, h, hp, r => by
    cases h with
    | tup h1 h2 =>
      cases r
      obtain ⟨its, rv, ⟨o, ho, hc, n, hd⟩, hz⟩ := I.tuple h1
      obtain ⟨as, ra, na⟩ := Reps.readsS I hS ds _ _ _ h2 (by rw [D.plain] at hp; exact hp) rv
      exact ⟨as, by rw [D.py]; exact .tuple ho hc hd (by simpa using ra), na⟩
  | .lst _ ds, _, _, _, h, hp, r => by
    have go : ∀ {a its fp xs}, (∃ o n, s.heap.get? a = some o ∧ o.cls = .type "list" ∧ o.data = .seq (List.toArray its) n) → Vals xs its → Reps X.w X.K H fp xs ds → ∃ as, Reads s.heap (.ref a) (D.py (.lst true ds)) as ∧ sysModules ∉ as := fun {a its fp xs} hr rv h2 => by
      obtain ⟨o, n, ho, hc, hd⟩ := hr
      obtain ⟨as, ra, na⟩ := Reps.readsS I hS ds _ _ _ h2 (by rw [D.plain] at hp; exact hp) rv
      exact ⟨a :: as, by rw [D.py]; exact .list ho hc hd (by simpa using ra), fun z => (List.mem_cons.mp z).elim (hS.ne I ho hc) na⟩
    cases h with
    | lstF h1 h2 =>
      cases r
      obtain ⟨its, rv, ⟨o, n, ho, hc, _, hd⟩, hz⟩ := I.list h1.sq
      exact go ⟨o, n, ho, hc, hd⟩ rv h2
    | lstO h1 h2 =>
      cases r
      obtain ⟨its, rv, ⟨o, n, ho, hc, _, hd⟩, hz⟩ := I.list (SqL.of h1)
      exact go ⟨o, n, ho, hc, hd⟩ rv h2
  | .dct _ kvs, _, _, _, h, hp, r => by
    have go : ∀ {a es fp}, RDp a es s.heap → RepD X.w X.K H fp es kvs → ∃ as, Reads s.heap (.ref a) (D.py (.dct true kvs)) as ∧ sysModules ∉ as := fun {a es fp} hr h2 => by
      obtain ⟨hs, hz, eo, ep, ⟨o, ho, ⟨hc, _⟩, hd⟩, hpd⟩ := hr
      obtain ⟨as, bs, ra, rb, na, nb⟩ := RepD.readsS I hS kvs _ _ _ h2 (by rw [D.plain] at hp; exact hp) hpd
      refine ⟨_, by rw [D.py]; exact .dict ho hc hd ra rb, fun z => ?_⟩
      rcases List.mem_append.mp z with z | z
      · rcases List.mem_cons.mp z with z | z
        · rw [← z] at hs; exact absurd hs (by decide)
        · exact na z
      · exact nb z
    cases h with
    | dctF h1 hn h2 => cases r; exact go (rd_at I (.inr ⟨_, h1⟩)) h2
    | dctO h1 hn h2 => cases r; exact go (rd_at I (.inl h1)) h2
theorem Reps.readsS (I : Inv X pins σ H s) (hS : SysD X.K) : ∀ (ds : List D) (fp : List Addr) (vs : List V) (us : List Value), Reps X.w X.K H fp vs ds → D.plains ds = true → Vals vs us → ∃ as, ReadsAll s.heap us (D.pys ds) as ∧ sysModules ∉ as
  | [], _, _, _, h, _, r => by cases h; cases r; exact ⟨_, .nil, by simp⟩
  | d :: ds, _, _, _, h, hp, r => by
    cases h with
    | cons h1 h2 =>
      cases r with
      | cons r1 r2 =>
        rw [D.plains, Bool.and_eq_true] at hp
        obtain ⟨as, ra, na⟩ := Rep.readsS I hS d _ _ _ h1 hp.1 r1
        obtain ⟨bs, rb, nb⟩ := Reps.readsS I hS ds _ _ _ h2 hp.2 r2
        exact ⟨_, .cons ra rb, fun z => (List.mem_append.mp z).elim na nb⟩
theorem RepD.readsS (I : Inv X pins σ H s) (hS : SysD X.K) : ∀ (kvs : List (D × D)) (fp : List Addr) (es : List (Int × V × V)) (eo : List DictEntry), RepD X.w X.K H fp es kvs → D.plaink kvs = true → Paired (fun (x : Int × V × V) (e : DictEntry) => e.hash = x.1 ∧ RelV x.2.1 e.key ∧ RelV x.2.2 e.val) es eo →
    ∃ as bs, ReadsAll s.heap (eo.map (·.key)) ((D.pyk kvs).map (·.1)) as ∧ ReadsAll s.heap (eo.map (·.val)) ((D.pyk kvs).map (·.2)) bs ∧ sysModules ∉ as ∧ sysModules ∉ bs
  | [], _, _, _, h, _, r => by cases h; cases r; exact ⟨_, _, .nil, .nil, by simp, by simp⟩
  | (k, d) :: kvs, _, _, _, h, hp, r => by
    cases h with
    | cons hk _ _ h1 h2 =>
      cases r with
      | cons r1 r2 =>
        rw [D.plaink, Bool.and_eq_true, Bool.and_eq_true] at hp
        obtain ⟨as, ra, na⟩ := Rep.readsS I hS k _ _ _ hk hp.1.1 r1.2.1
        obtain ⟨bs, rb, nb⟩ := Rep.readsS I hS d _ _ _ h1 hp.1.2 r1.2.2
        obtain ⟨cs, ds, rc, rd, nc, nd⟩ := RepD.readsS I hS kvs _ _ _ h2 hp.2 r2
        exact ⟨_, _, .cons ra rc, .cons rb rd, fun z => (List.mem_append.mp z).elim na nc, fun z => (List.mem_append.mp z).elim nb nd⟩
end
end
/-- what repr gives of it -/
def D.shown (d : D) : Str := d.py.shown
def reprOk (d : D) : Bool := d.plain && d.py.showable && decide (d.py.depth ≤ 64) && decide (d.shown.length ≤ sizeLine)
def reprD : List D → Option D
  | [d] => if reprOk d = true then some (.str d.shown) else none
  | _ => none
section
variable {X : Cx}
theorem cd_repr (hgu : X.A.guards = some []) (hS : SysD X.K) (hu : X.A.units + 66 < cLine) : CallR X (.builtin "repr") (cD X.w X.K reprD) := by
  intro pins s σ H xs us Q I r ⟨ds, d, ra, e, k⟩
  unfold reprD at e
  split at e
  · rename_i d0
    split at e
    · rename_i hz
      cases e
      obtain ⟨v, fp, rfl, rv⟩ := ra.one
      obtain ⟨u, rfl, ru⟩ := vals1 r
      unfold reprOk at hz
      simp only [Bool.and_eq_true, decide_eq_true_eq] at hz
      obtain ⟨⟨⟨hp, hsh⟩, hdp⟩, hsz⟩ := hz
      obtain ⟨as, rd, na⟩ := rv.readsS I hS _ _ _ _ hp ru
      have fin : ∀ (t : Nat) (s' : Shared) , Inv X pins σ H s' → EP X pins σ Q (.str d0.shown t) s' := fun t s' I' => ⟨.str d0.shown, H, I', ⟨t, rfl⟩, res_now k (.str _)⟩
      cases ru' : u with
      | ref a =>
        subst ru'
        refine repr_of_reads' rd hsh (fun _ => na) hgu (by omega) (fun _ _ z => z) (fun h' t tk hk => ?_) hsz
        exact fin t _ (I.kept (t' := tk) hk)
      | none => subst ru'; cases d0 <;> simp only [D.py] at rd <;> first | (exfalso; simp [D.plain] at hp; done) | (cases rd; done) | (cases rd; exact P.repr_of_none (fin _ _ (I.kept (t' := _) fun _ _ z => z)))
      | bool b => subst ru'; cases d0 <;> simp only [D.py] at rd <;> first | (exfalso; simp [D.plain] at hp; done) | (cases rd; done) | (cases rd; exact P.repr_of_bool (fin _ _ (I.kept (t' := _) fun _ _ z => z)))
      | int i t =>
        subst ru'; cases d0 <;> simp only [D.py] at rd <;> first | (exfalso; simp [D.plain] at hp; done) | (cases rd; done) | (cases rd; exact P.repr_of_int (by simpa [D.py, PyData.showable] using hsh) (fin _ _ (I.kept (t' := _) fun _ _ z => z)))
      | str x t => subst ru'; cases d0 <;> simp only [D.py] at rd <;> first | (exfalso; simp [D.plain] at hp; done) | (cases rd; done) | (cases rd; exact P.repr_of_str (fin _ _ (I.kept (t' := _) fun _ _ z => z)) hsz)
      | _ => subst ru'; cases rd
    · cases e
  · cases e
end
end KW
/-! KWr: slices by a step; two fors; what is changed within a slot. -/
namespace KW
open PySem PySem.Spec L2
open PyProof.Rows hiding St

/-! ### xs[::k] -/
def stepD : D → Int → Option D
  | .lst _ ds, k => if D.isFzs ds = true then (if k = 1 then some (.lst true ds) else if k = -1 then some (.lst true ds.reverse) else none) else none
  | _, _ => none
def dStep (te tk : TDE) : TDE := fun ρ Q => te ρ fun x ρ1 => tk ρ1 fun y ρ2 => ∃ k, y.get ρ2 = some (.int k) ∧ ∃ dx, x.get ρ2 = some dx ∧ ∃ d, stepD dx k = some d ∧ Q (.val d) ρ2
theorem pick_one (items : Array Value) : slicePick items none none (some 1) = items := by
  have e : slicePick items none none (some 1) = slicePick items none none none := rfl
  rw [e, slicePick_all]
theorem Reps.rev0 {w : World} {K : PySem.W.Frag} {H : Hp} : ∀ {vs : List V} {ds : List D}, Reps w K H [] vs ds → Reps w K H [] vs.reverse ds.reverse
  | vs, [], r => by obtain ⟨_, rfl⟩ := r.nil_inv; exact .nil
  | vs, d :: ds, r => by
    obtain ⟨v, vr, rfl, r1, r2⟩ := r.cons0
    rw [List.reverse_cons, List.reverse_cons]
    exact Reps.app (Reps.rev0 r2) (Reps.cons (fp := []) (gp := []) r1 .nil)
theorem vals_rev : ∀ {vs : List V} {us : List Value}, Vals vs us → Vals vs.reverse us.reverse
  | _, _, .nil => .nil
  | _, _, .cons r t => by
    rw [List.reverse_cons, List.reverse_cons]
    exact (vals_rev t).append (.cons r .nil)
theorem pd_step {X : Cx} {p : Option V} {a st : Expr} {ta tk : TDE} {pos p2 : Pos} (ha : PE X a (tE X.w X.K p ta)) (hk : PE X st (tE X.w X.K p tk)) : PE X (.Subscript a (.Slice none none (some st) p2) pos) (tE X.w X.K p (dStep ta tk)) := by
  refine ⟨fun pins s σ H Q I ⟨ρ, G, P, F, k, q⟩ => ?_⟩
  refine Subscript_ (thn (ha.run pins s σ H (fun v H1 => ∃ x ρ1 G1 fp, (tk ρ1 fun y ρ2 => ∃ k, y.get ρ2 = some (.int k) ∧ ∃ dx, x.get ρ2 = some dx ∧ ∃ d, stepD dx k = some d ∧ P (.val d) ρ2) ∧ Fit X.w X.K p H1 σ ρ1 G1 ∧ Evo G H G1 H1 ∧ RepOpd X.w X.K H1 σ G1 fp v x) I
    ⟨ρ, G, _, F, k, fun x ρ1 v1 H1 G1 fp1 h1 F1 e1 n1 r1 => ⟨x, ρ1, G1, fp1, h1, F1, e1, r1⟩⟩) fun v s1 ⟨xv, H1, I1, rv, x, ρ1, G1, fp, h1, F1, e1, r1⟩ => ?_)
  refine wpAny_Slice ?_
  rw [evalPart_none, evalPart_some]
  refine wpAny_pure (wpAny_pure (thn (hk.run pins s1 σ H1 (fun y H2 => ∃ k dx d fx, y = .int k ∧ Rep X.w X.K H2 fx xv dx ∧ stepD dx k = some d ∧ Res X.w X.K H2 d Q) I1 ⟨ρ1, G1, _, F1, h1, fun y ρ2 v2 H2 G2 fp2 h2 F2 e2 n2 r2 => ?_⟩) fun vk s2 ⟨yv, H2, I2, rk, k, dx, d, fx, eyk, rx, ed, hr⟩ => ?_))
  · obtain ⟨k, gk, dx, gx, d, ed, pp⟩ := h2
    obtain ⟨fy, ry⟩ := r2.rep F2 gk
    cases ry
    obtain ⟨fx, rx⟩ := (r1.evo F1 e2).rep F2 gx
    exact ⟨k, dx, d, fx, rfl, rx, ed, res_of F2 (e1.trans e2) fun v H' G' fp => q _ _ v H' G' fp pp⟩
  subst eyk
  obtain ⟨t, rfl⟩ := rk
  have I4 : Inv X pins σ H2 { s2 with heap := s2.heap.push { cls := .type "slice", data := .fields #[.none, .none, .int k t] } } := I2.kept (t' := s2.toks) fun b ob q => Heap.get?_push_of_some _ q
  have pk : k ≠ 0 ∧ ∃ o ds ds', dx = .lst o ds ∧ D.isFzs ds = true ∧ d = .lst true ds' ∧ ((k = 1 ∧ ds' = ds) ∨ (k = -1 ∧ ds' = ds.reverse)) := by
    unfold stepD at ed
    split at ed
    · split at ed
      · split at ed
        · rename_i k1; cases ed; exact ⟨by omega, _, _, _, rfl, by assumption, rfl, .inl ⟨k1, rfl⟩⟩
        · split at ed
          · rename_i k1; cases ed; exact ⟨by omega, _, _, _, rfl, by assumption, rfl, .inr ⟨k1, rfl⟩⟩
          · cases ed
      · cases ed
    · cases ed
  obtain ⟨k0, o, ds, ds', rfl, hz, rfl, hk'⟩ := pk
  obtain ⟨b, xs, gp, rfl, hq, rs⟩ := rx.sqL
  have r0 := rs.fz0 hz
  cases rv
  obtain ⟨its, rI, pl, hsz⟩ := I4.list hq
  refine (show wpAny (model X.prog X.w) X.A (subscriptTail a (.Slice none none (some st) p2) (.ref b) (.ref s2.heap.objs.size)) (EP X pins σ Q) X.xe { s2 with heap := s2.heap.push { cls := .type "slice", data := .fields #[.none, .none, .int k t] } } from ?_)
  refine tail_any (ops := [.ref b, .ref s2.heap.objs.size]) pl.isList.typeIs slot_list_getitem.lookup ?_ (by with_unfolding_all rfl)
  refine wpAny_getItem_list_slice pl.isList (Heap.IsSliceOf.new ..) .none .none (.int k t) (by simpa using k0) ?_ (by rw [List.size_toArray, ← rI.length]; exact hsz)
  have new := I4.fresh
  rcases hk' with ⟨rfl, rfl⟩ | ⟨rfl, rfl⟩
  · rw [pick_one]
    exact ⟨.ref _, _, I4.laid (t' := s2.toks) (o := .lst xs) (fun b ob q => Heap.get?_push_of_some _ q) (Nat.le_refl _) ⟨hsz, _, 0, rI, Heap.get?_push_size _ rfl⟩, rfl, res_lst hr r0 new⟩
  · rw [PySem.W.krv_pick]
    exact ⟨.ref _, _, I4.laid (t' := s2.toks) (o := .lst xs.reverse) (fun b ob q => Heap.get?_push_of_some _ q) (Nat.le_refl _) ⟨by rw [List.length_reverse]; exact hsz, _, 0, vals_rev rI, Heap.get?_push_size _ rfl⟩, rfl, res_lst hr r0.rev0 new⟩

/-! ### [.. for .. for ..] -/
section
variable {X : Cx} {p : Option V}
theorem pd_lc2 {elt tg iter tg1 iter1 : Expr} {ifs ifs1 : List Expr} {scope : Scope} {own : List (Str × Nat)} {ws ws1 vs1 : List Nat} {pos : Pos} {ti ti1 : TDI} {g g1 : TGD} {tt tt1 : TDT} {te : TDE} (hc : X.calm = true) (hN : X.N.Nodup) (hp : 0 ∉ own.map (·.2) ∨ p = none) (hsub : ∀ j ∈ ws, j ∈ own.map (·.2)) (hsub1 : ∀ j ∈ ws1, j ∈ vs1) (hv : ∀ j ∈ vs1, j ∈ own.map (·.2))
    (hi : PI X tg iter (tI X.w X.K p ti)) (ok : BlkOk X.N X.env.scope scope own)
    (hg : ∀ (s : Shared) (H : Hp) (C : Addr) (cl : List (Str × Addr)) (fp : List Addr), PG (X.blk s H scope (compEnvC scope cl C X.env) fp) tg (tG X.w X.K p ws g)) (ht : ∀ (s : Shared) (H : Hp) (C : Addr) (cl : List (Str × Addr)) (fp : List Addr), PTs (X.blk s H scope (compEnvC scope cl C X.env) fp) ifs (tT X.w X.K p tt))
    (hi1 : ∀ (s : Shared) (H : Hp) (C : Addr) (cl : List (Str × Addr)) (fp : List Addr), PI (X.blk s H scope (compEnvC scope cl C X.env) fp) tg1 iter1 (tI X.w X.K p ti1))
    (hg1 : ∀ (s : Shared) (H : Hp) (C : Addr) (cl : List (Str × Addr)) (fp : List Addr), PG (X.blk s H scope (compEnvC scope cl C X.env) fp) tg1 (tG X.w X.K p ws1 g1)) (ht1 : ∀ (s : Shared) (H : Hp) (C : Addr) (cl : List (Str × Addr)) (fp : List Addr), PTs (X.blk s H scope (compEnvC scope cl C X.env) fp) ifs1 (tT X.w X.K p tt1))
    (he : ∀ (s : Shared) (H : Hp) (C : Addr) (cl : List (Str × Addr)) (fp : List Addr), PE (X.blk s H scope (compEnvC scope cl C X.env) fp) elt (tE X.w X.K p te)) (hs : ∀ x, foldedSetIterable iter X.env x = pure x := by intro _; rfl) (hs1 : ∀ env x, foldedSetIterable iter1 env x = pure x := by intro _ _; rfl) :
    PE X (.ListComp elt [⟨tg, iter, ifs, 0⟩, ⟨tg1, iter1, ifs1, 0⟩] scope pos) (tE X.w X.K p (dComp2 ti g tt ti1 g1 tt1 te (own.map (·.2)) vs1)) :=
  PE.imp (pe_lc2 hc hN hi ok hv hg ht hi1 hg1 ht1 (fun s H C cl fp => pd_take (he s H C cl fp)) hs hs1) fun _ _ _ h => comp_lc2 hp hsub hsub1 hv h
theorem pd_setLc2 (i : Nat) {y : Str} {py : Pos} {elt tg iter tg1 iter1 : Expr} {ifs ifs1 : List Expr} {scope : Scope} {own : List (Str × Nat)} {ws ws1 vs1 : List Nat} {pos spos : Pos} {ti ti1 : TDI} {g g1 : TGD} {tt tt1 : TDT} {te : TDE} (hc : X.calm = true) (hN : X.N.Nodup) (hpi : i ≠ 0 ∨ p = none) (hp : 0 ∉ own.map (·.2) ∨ p = none) (hsub : ∀ j ∈ ws, j ∈ own.map (·.2)) (hsub1 : ∀ j ∈ ws1, j ∈ vs1) (hv : ∀ j ∈ vs1, j ∈ own.map (·.2))
    (hy : X.N[i]? = some y) (hyl : X.env.scope.names.lookup y = some .local) (hsw : swapsWith (.ListComp elt [⟨tg, iter, ifs, 0⟩, ⟨tg1, iter1, ifs1, 0⟩] scope pos) (some (.Name y py)) spos.line X.env = pure true)
    (hi : PI X tg iter (tI X.w X.K p ti)) (ok : BlkOk X.N X.env.scope scope own)
    (hg : ∀ (s : Shared) (H : Hp) (C : Addr) (cl : List (Str × Addr)) (fp : List Addr), PG (X.blk s H scope (compEnvC scope cl C X.env) fp) tg (tG X.w X.K p ws g)) (ht : ∀ (s : Shared) (H : Hp) (C : Addr) (cl : List (Str × Addr)) (fp : List Addr), PTs (X.blk s H scope (compEnvC scope cl C X.env) fp) ifs (tT X.w X.K p tt))
    (hi1 : ∀ (s : Shared) (H : Hp) (C : Addr) (cl : List (Str × Addr)) (fp : List Addr), PI (X.blk s H scope (compEnvC scope cl C X.env) fp) tg1 iter1 (tI X.w X.K p ti1))
    (hg1 : ∀ (s : Shared) (H : Hp) (C : Addr) (cl : List (Str × Addr)) (fp : List Addr), PG (X.blk s H scope (compEnvC scope cl C X.env) fp) tg1 (tG X.w X.K p ws1 g1)) (ht1 : ∀ (s : Shared) (H : Hp) (C : Addr) (cl : List (Str × Addr)) (fp : List Addr), PTs (X.blk s H scope (compEnvC scope cl C X.env) fp) ifs1 (tT X.w X.K p tt1))
    (he : ∀ (s : Shared) (H : Hp) (C : Addr) (cl : List (Str × Addr)) (fp : List Addr), PE (X.blk s H scope (compEnvC scope cl C X.env) fp) elt (tE X.w X.K p te)) (hs : ∀ x, foldedSetIterable iter X.env x = pure x := by intro _; rfl) (hs1 : ∀ env x, foldedSetIterable iter1 env x = pure x := by intro _ _; rfl) :
    PS X (.Assign [.Name y py] (.ListComp elt [⟨tg, iter, ifs, 0⟩, ⟨tg1, iter1, ifs1, 0⟩] scope pos) spos) (tS X.w X.K p (dSetC i (dComp2 ti g tt ti1 g1 tt1 te (own.map (·.2)) vs1))) := by
  refine PS.imp (ps_setLc2 (i := i) hc hN hy hyl hsw hi ok hv hg ht hi1 hg1 ht1 (fun s H C cl fp => pd_take (he s H C cl fp)) hs hs1) fun D σ H ⟨ρ, G, F, Dd, O, h⟩ => comp_lc2 (Q := fun x H1 => gName i x σ H1 D.nx) hp hsub hsub1 hv ⟨ρ, G, _, F, h, fun x ρ1 v1 H1 G1 fp1 h1 F1 e1 n1 r1 => ?_⟩
  cases x with
  | slot j => exact h1.elim
  | val d =>
    obtain ⟨G', F', e'⟩ := slot_set hpi F1 e1 n1 r1
    exact O.nx _ _ H1 G' F' e' h1
end
end KW
/-! KWs: a part of a slot is changed: pick(pen, layers).append(e). -/
namespace KW
open PySem PySem.Spec L2
open PyProof.Rows hiding St

/-- the j-th of some lists, and how it is changed: an item more -/
theorem Reps.push_at {w : World} {K : PySem.W.Frag} {H : Hp} {gp : List Addr} {y : V} {d : D} (ry : Rep w K H gp y d) : ∀ {xs : List V} {ds : List D} {fp : List Addr} {j : Nat} {l : List D}, Reps w K H fp xs ds → ds[j]? = some (.lst true l) → fp.Nodup → gp.Nodup → (∀ a ∈ gp, a ∉ fp) →
    ∃ b ys, xs[j]? = some (.ref b) ∧ b ∈ fp ∧ H b = some (.lst ys) ∧ ys.length = l.length ∧ ∃ fp', Reps w K (upd H b (.lst (ys ++ [y]))) fp' xs (ds.set j (.lst true (l ++ [d]))) ∧ fp'.Nodup ∧ ∀ a ∈ fp', a ∈ fp ∨ a ∈ gp
  | _, _, _, j, _, .nil, h, _, _, _ => by simp at h
  | _, _, _, 0, l, .cons (fp := f1) (gp := f2) (v := v) (vs := vs) (d := d1) (ds := ds) r t, h, nf, ng, dj => by
    have e : d1 = .lst true l := by simpa using h
    subst e
    obtain ⟨b, ys, f, rfl, rfl, hH, rl⟩ := r.lstOwn
    obtain ⟨n1, n2, n3⟩ := List.nodup_append.mp nf
    obtain ⟨nb, nf'⟩ := List.nodup_cons.mp n1
    have nbg : b ∉ gp := fun z => dj b z (List.mem_append_left _ List.mem_cons_self)
    have nb2 : b ∉ f2 := fun z => n3 b List.mem_cons_self b z rfl
    refine ⟨b, ys, by simp, by simp, hH, rl.length, (b :: (f ++ (gp ++ []))) ++ f2, ?_, ?_, ?_⟩
    · rw [List.set_cons_zero]
      exact .cons (.lstO upd_same ((rl.wr hH trivial nb).append (.cons (ry.wr hH trivial nbg) .nil))) (t.wr hH trivial nb2)
    · rw [List.append_nil]
      refine List.nodup_append.mpr ⟨List.nodup_cons.mpr ⟨fun z => (List.mem_append.mp z).elim nb nbg, List.nodup_append.mpr ⟨nf', ng, fun a ha c hc z => dj c hc (List.mem_append_left _ (List.mem_cons_of_mem _ (by rw [← z]; exact ha)))⟩⟩, n2, fun a ha c hc z => ?_⟩
      subst z
      rcases List.mem_cons.mp ha with z | z
      · subst z; exact nb2 hc
      · rcases List.mem_append.mp z with z | z
        · exact n3 a (List.mem_cons_of_mem _ z) a hc rfl
        · exact dj a z (List.mem_append_right _ hc)
    · intro a ha
      rw [List.append_nil] at ha
      rcases List.mem_append.mp ha with z | z
      · rcases List.mem_cons.mp z with z | z
        · exact .inl (by rw [z]; simp)
        · rcases List.mem_append.mp z with z | z
          · exact .inl (List.mem_append_left _ (List.mem_cons_of_mem _ z))
          · exact .inr z
      · exact .inl (List.mem_append_right _ z)
  | _, _, _, j + 1, l, .cons (fp := f1) (gp := f2) (v := v) (d := d1) r t, h, nf, ng, dj => by
    obtain ⟨n1, n2, n3⟩ := List.nodup_append.mp nf
    obtain ⟨b, ys, e1, hb, hH, hl, fp', r', n', s'⟩ := Reps.push_at ry (j := j) t (by simpa using h) n2 ng fun a ha z => dj a ha (List.mem_append_right _ z)
    have nb1 : b ∉ f1 := fun z => n3 b z b hb rfl
    refine ⟨b, ys, by simpa using e1, List.mem_append_right _ hb, hH, hl, f1 ++ fp', ?_, List.nodup_append.mpr ⟨n1, n', fun a ha c hc z => ?_⟩, fun a ha => ?_⟩
    · rw [List.set_cons_succ]
      exact .cons (r.wr hH trivial nb1) r'
    · subst z
      rcases s' a hc with z | z
      · exact n3 a ha a z rfl
      · exact dj a z (List.mem_append_left _ ha)
    · rcases List.mem_append.mp ha with z | z
      · exact .inl (List.mem_append_left _ z)
      · exact (s' a z).imp (fun y => List.mem_append_right _ y) id

/-! ### a pick out of a list of one's own -/
/-- pick(pen, some), some a list that stands by itself: the item itself. Ft: what take makes of the pen and the length -/
def spPk (w : World) (K : PySem.W.Frag) (Ft : D → List D → (D → D → Prop) → Prop) : Sp := fun vs H Q _ => ∃ v0 a xs d0 fp P, vs = [v0, .ref a] ∧ H a = some (.lst xs) ∧ a ∉ fp ∧ Rep w K H fp v0 d0 ∧ fp.Nodup ∧ Ft d0 [.int xs.length] P ∧
  ∀ r d0' H' fp', P r d0' → (∀ b o, H b = some o → b ∉ fp → H' b = some o) → (∀ b o, H b = some o → ∃ o', H' b = some o') → (∀ b ∈ fp', b ∈ fp ∨ H b = none) → fp'.Nodup → Rep w K H' fp' v0 d0' → ∃ k v, r = .int k ∧ atI xs k = some v ∧ Q v H'
section
variable {P : Program} {w : World} {K : PySem.W.Frag} {mg : Str → Option Value} {base : Heap}
/-- return some[take(pen, len(some))] -/
theorem fn_pick {x qual px sx tx : Str} {params : Arguments} {scope : Scope} {f fT : Addr} {fd fdT : FuncData} {N ps psT : List Str} {k : Nat} {Ft : D → List D → (D → D → Prop) → Prop} {p1 p2 p3 p4 p5 p6 p7 p8 p9 : Pos} (S : FnScope N ps scope) (hN : N = [px, sx]) (hps : ps.length = 2)
    (F : FunD K x qual params [.Return (some (.Subscript (.Name sx p1) (.Call (.Name tx p2) [.Name px p3, .Call (.Name "len" p4) [.Name sx p5] [] p6] [] p7) p8)) p9] scope [] [] f fd) (FT : FnG P w K mg base CX0 k fT fdT psT (spI w K 2 Ft)) (gT : mg tx = some (.ref fT)) (kT : PySem.W.keepIn K (.ref fT) = true) (bT : Binds K fdT psT []) (gL : mg "len" = none)
    (h1 : scope.names.lookup px = some .local) (h2 : scope.names.lookup sx = some .local) (hgT : ∀ (X : Cx), X.env.scope = scope → Gl X tx) (hgL : ∀ (X : Cx), X.env.scope = scope → Gl X "len") (hdp : (px == ("__debug__" : Str)) = false) (hcp : (px == ("__classdict__" : Str)) = false) (hds : (sx == ("__debug__" : Str)) = false) (hcs : (sx == ("__classdict__" : Str)) = false) (hdt : (tx == ("__debug__" : Str)) = false) :
    FnG P w K mg base CX0 (k + 1) f fd ps (spPk w K Ft) := by
  subst hN
  refine okG0 F S (fun vs H Q E h => ?_) (fun cdv A outer s H vs Q E hg hr h => ?_)
  · obtain ⟨v0, a, xs, d0, fp, P, rfl, _⟩ := h
    exact hps.symm
  · refine ⟨_, pss_one (ps_ret (pe_ix ix_list (pe_var (i := 1) rfl (.inl h2) hds hcs) (pe_callG (E := E0) FT hg hr (hgT _ rfl) gT kT bT .nil pass0
      (pa_cons (pe_var (i := 0) rfl (.inl h1) hdp hcp) (pa_cons (pe_callB call_len_seq (hgL _ rfl) gL boot_len (pa_cons (pe_var (i := 1) rfl (.inl h2) hds hcs) pa_nil)) pa_nil)) hdt) (fun _ _ => rfl))), ?_⟩
    obtain ⟨v0, a, xs, d0, fp, P, rfl, hH, na, r0, nf, hF, q⟩ := h
    refine ⟨.ref a, rfl, v0, rfl, .ref a, rfl, a, xs, rfl, .inl (SqL.of hH), ?_⟩
    refine ⟨v0, _, d0, [.int xs.length], fp, P, rfl, rfl, r0, nf, .cons (fp := []) (gp := []) (.int _) .nil, hF, fun r d0' v H' gp fp' pp kp dm nw _ _ _ nf' rf rg => ?_⟩
    obtain ⟨k, u, rfl, e, hq⟩ := q r d0' H' fp' pp kp dm nw nf' rf
    cases rg
    exact ⟨a, xs, k, u, rfl, rfl, SqL.of (kp a _ hH na), e, hq⟩
end
/-- pick(pen, some).append(e): pen, some are slots; e does not see some -/
def dPick (ip il : Nat) (Ft : D → List D → (D → D → Prop) → Prop) (te : TDE) : TDS := fun Dd ρ => ∃ d0 ls, ρ.getD ip none = some d0 ∧ ρ.getD il none = some (.lst true ls) ∧ Ft d0 [.int ls.length] fun r d0' => ∃ k j l, r = .int k ∧ ixN ls.length k = some j ∧ ls[j]? = some (.lst true l) ∧
  te ((ρ.set ip (some d0')).set il none) fun x ρ1 => ∃ dx ρ2, takeO x ρ1 = some (dx, ρ2) ∧ l.length < sizeLine ∧ Dd.nx (ρ2.set il (some (.lst true (ls.set j (.lst true (l ++ [dx]))))))
theorem atI_ix {α : Type} {xs : List α} {k : Int} {v : α} {j : Nat} (h : ixN xs.length k = some j) (e : xs[j]? = some v) : atI xs k = some v := by
  unfold L2.atI
  rw [h]
  exact e
/-- behind a call that changed the slot i -/
theorem Fit.io {w : World} {K : PySem.W.Frag} {p : Option V} {H H' : Hp} {σ : L2.St} {ρ : Env} {G : Fps} {i : Nat} {v0 : V} {d0' : D} {fp' : List Addr} (F : Fit w K p H σ ρ G) (ev : σ[i]? = some (some v0)) (kp : ∀ b o, H b = some o → b ∉ G i → H' b = some o) (dm : ∀ b o, H b = some o → ∃ o', H' b = some o')
    (nw : ∀ b ∈ fp', b ∈ G i ∨ H b = none) (nf' : fp'.Nodup) (rf : Rep w K H' fp' v0 d0') : Fit w K p H' σ (ρ.set i (some d0')) (setF G i fp') ∧ Evo G H (setF G i fp') H' := by
  have pm : ∀ a o, H a = some o → Perm o → H' a = some o := fun a o ho hp => kp a o ho fun hi => by
    obtain ⟨o', ho', ow⟩ := F.own hi
    rw [ho] at ho'; cases ho'
    exact ow.np hp
  have F2 : Fit w K p H' σ (ρ.set i none) (setF G i []) := by
    have Fd := F.drop i
    refine ⟨fun j d' q => ?_, Fd.emp, Fd.nod, Fd.dj, Fd.len, Fd.pin⟩
    obtain ⟨u, q1, q2⟩ := Fd.rep j d' q
    refine ⟨u, q1, q2.mono pm d' _ _ fun a ha o ho => kp a o ho fun hi => ?_⟩
    by_cases ej : j = i
    · subst ej; rw [setF_same] at ha; cases ha
    · rw [setF_ne ej] at ha; exact ej (F.dj j i a ha hi)
  have F3 := F2.re ev rf nf' fun a ha j hj hm => by
    rw [setF_ne hj] at hm
    exact (nw a ha).elim (fun z => hj (F.dj j i a hm z)) (fun z => F.fresh z j hm)
  rw [show (ρ.set i none).set i (some d0') = ρ.set i (some d0') by simp, show setF (setF G i []) i fp' = setF G i fp' by funext j; unfold setF; split <;> rfl] at F3
  refine ⟨F3, fun a o ho n => kp a o ho (n i), fun j a hm => ?_, dm⟩
  by_cases ej : j = i
  · subst ej
    rw [setF_same] at hm
    exact (nw a hm).imp (fun z => ⟨_, z⟩) id
  · rw [setF_ne ej] at hm; exact .inl ⟨j, hm⟩
section
variable {X : Cx} {p : Option V} {k : Nat} {f : Addr} {fd : FuncData} {ps : List Str} {fx px sx : Str} {e : Expr} {te : TDE} {Ft : D → List D → (D → D → Prop) → Prop} {p1 p2 p3 cp apos cpos pos : Pos}
theorem pd_pickApp (ip il : Nat) (Fn : FnG X.prog X.w X.K X.mg X.base CX0 k f fd ps (spPk X.w X.K Ft)) (hgu : X.A.guards = some []) (hr : Room k X.A) (hg : Gl X fx) (hm : X.mg fx = some (.ref f)) (hk : PySem.W.keepIn X.K (.ref f) = true) (hb : Binds X.K fd ps []) (hne : ip ≠ il)
    (hpn : PE X (.Name px p2) (tVar ip)) (hsn : PE X (.Name sx p3) (tVar il)) (he : PE X e (tE X.w X.K p te)) (hdb : (fx == ("__debug__" : Str)) = false := by decide)
    (he1 : starEach [.Name px p2, .Name sx p3] X.env = (false, eval (.Name px p2) X.env) :: starEach [.Name sx p3] X.env := by rfl) (he2 : starEach [.Name sx p3] X.env = (false, eval (.Name sx p3) X.env) :: starEach [] X.env := by rfl) (hpl : (backTo cp (starEach [.Name sx p3] X.env)).any (·.1) = false := by rfl)
    (hbase : attributeBase (.Call (.Name fx p1) [.Name px p2, .Name sx p3] [] cp) "append" X.env (eval (.Call (.Name fx p1) [.Name px p2, .Name sx p3] [] cp) X.env) = eval (.Call (.Name fx p1) [.Name px p2, .Name sx p3] [] cp) X.env := by rfl)
    (hfew : ((backTo cpos (starEach [e] X.env)).all (fun x => !x.1) && (backToKw cpos (keywordEach [] X.env)).all (fun x => x.1.isSome)
      && decide ([e].length + ([] : List Keyword).length + (if ([] : List Keyword).isEmpty then 0 else 1) < 30)) = true := by rfl)
    (hline : (apos.endLine == cpos.line) = true := by rfl) (hs : starEach [e] X.env = (false, eval e X.env) :: starEach [] X.env := by rfl) (hplain : (backTo cpos (starEach [] X.env)).any (·.1) = false := by rfl)
    (hsw : swapsWith (.Call (.Attribute (.Call (.Name fx p1) [.Name px p2, .Name sx p3] [] cp) "append" apos) [e] [] cpos) none pos.line X.env = pure false := by rfl) :
    PS X (.Expr (.Call (.Attribute (.Call (.Name fx p1) [.Name px p2, .Name sx p3] [] cp) "append" apos) [e] [] cpos) pos) (tS X.w X.K p (dPick ip il Ft te)) := by
  have key : PE X (.Call (.Attribute (.Call (.Name fx p1) [.Name px p2, .Name sx p3] [] cp) "append" apos) [e] [] cpos) (fun σ H Q => ∃ ρ G D Dd, Fit X.w X.K p H σ ρ G ∧ EndsOk X.w X.K p Dd D G H ∧ dPick ip il Ft te Dd ρ ∧ ∀ v H', D.nx σ H' → Q v H') := by
    refine ⟨fun pins s σ H Q I ⟨ρ, G, Dn, Dd, F, O, ⟨d0, ls, g0, gl, hF⟩, hq⟩ => ?_⟩
    obtain ⟨v0, ev0, r0⟩ := F.rep ip d0 (getD_some g0)
    obtain ⟨vl, evl, rl⟩ := F.rep il _ (getD_some gl)
    obtain ⟨a, xs, fl, rfl, eG, hH, rs⟩ := rl.lstOwn
    have hafl : ∀ b, b ∈ a :: fl → b ∈ G il := fun b z => by rw [eG]; exact z
    have na : a ∉ G ip := fun z => hne (F.dj ip il a z (hafl a List.mem_cons_self))
    have E1 := pe_callG (E := E0) (pos := cp) (p := p1) Fn hgu hr hg hm hk hb .nil pass0 (pa_cons hpn (pa_cons hsn pa_nil he2) he1) hdb he1 hpl
    refine wpAny_Call_method_late hbase hfew hline rfl (thn (E1.run pins s σ H (fun v H1 => ∃ d0' j l G1, xs[j]? = some v ∧ ls[j]? = some (.lst true l) ∧ (te ((ρ.set ip (some d0')).set il none) fun x ρ1 => ∃ dx ρ2, takeO x ρ1 = some (dx, ρ2) ∧ l.length < sizeLine ∧ Dd.nx (ρ2.set il (some (.lst true (ls.set j (.lst true (l ++ [dx]))))))) ∧
      Fit X.w X.K p H1 σ (ρ.set ip (some d0')) G1 ∧ Evo G H G1 H1 ∧ G1 il = G il ∧ H1 a = some (.lst xs)) I ?_) fun v s1 ⟨bv, H1, I1, rv, d0', j, l, G1, exj, elj, hte, F1, e1, eG1, hH1⟩ => ?_)
    · refine ⟨v0, ev0, .ref a, evl, v0, a, xs, d0, G ip, _, rfl, hH, na, r0, F.nod ip, by rw [rs.length]; exact hF, fun r d0' H' fp' pp kp dm nw nf' rf => ?_⟩
      obtain ⟨k, j, l, rfl, eix, elj, hte⟩ := pp
      obtain ⟨v, _, exj, _⟩ := rs.at elj
      obtain ⟨Fa, Fb⟩ := F.io ev0 kp dm nw nf' rf
      exact ⟨k, v, rfl, atI_ix (by rw [rs.length]; exact eix) exj, d0', j, l, _, exj, elj, hte, Fa, Fb, setF_ne (Ne.symm hne), kp a _ hH na⟩
    · have hgl1 : (ρ.set ip (some d0')).getD il none = some (.lst true ls) := by
        rw [List.getD_eq_getElem?_getD, List.getElem?_set_ne hne, getD_some gl]; rfl
      obtain ⟨vl1, evl1, rl1⟩ := F1.rep il _ (getD_some hgl1)
      rw [evl] at evl1; cases evl1
      obtain ⟨a1, xs1, f1, ea1, eG1', hH1', rs1⟩ := rl1.lstOwn
      cases ea1
      rw [hH1] at hH1'; cases hH1'
      obtain ⟨naf, nf1⟩ := List.nodup_cons.mp (show (a :: f1).Nodup by rw [← eG1']; exact F1.nod il)
      obtain ⟨bb, yb, exj1, hbf, hHb, hlb, _⟩ := Reps.push_at (y := .non) (d := .non) .non rs1 elj nf1 .nil (fun _ z => nomatch z)
      rw [exj] at exj1; cases exj1
      cases rv
      obtain ⟨its, rI, pl, hz⟩ := I1.list (SqL.of hHb)
      obtain ⟨ob, nb, hob, hcb, hdb', _⟩ := pl
      refine ⟨"list", _, PySem.F.plainAttrs_list, PySem.F.slot_list_append, PySem.F.type_list_append, ⟨ob, hob, hcb⟩, fun c z => by cases z; exact ⟨ob, hob, hdb'⟩, ?_⟩
      -- the list is out of the slots while e runs
      have Fd := F1.drop il
      have apd : ∀ c ∈ a :: f1, ∀ i, c ∉ setF G1 il [] i := fun c hc i z => by
        by_cases ei : i = il
        · subst ei; rw [setF_same] at z; cases z
        · rw [setF_ne ei] at z; exact ei (F1.dj i il c z (by rw [eG1']; exact hc))
      have ed : Evo G H (setF G1 il []) H1 := e1.sub sub_setF_nil
      have A1 := (pd_take he).run pins s1 σ H1 (fun y H2 => ∃ dx ρ2 G2 gp, l.length < sizeLine ∧ Dd.nx (ρ2.set il (some (.lst true (ls.set j (.lst true (l ++ [dx])))))) ∧ Fit X.w X.K p H2 σ ρ2 G2 ∧ Evo (setF G1 il []) H1 G2 H2 ∧ Nw (setF G1 il []) H1 gp ∧ RepOpd X.w X.K H2 σ G2 gp y (.val dx)) I1
        ⟨_, _, onVal fun dx ρ2 => l.length < sizeLine ∧ Dd.nx (ρ2.set il (some (.lst true (ls.set j (.lst true (l ++ [dx])))))), Fd, ?_, fun xo ρ2 v2 H2 G2 gp h2 F2 e2 n2 r2 => ?_⟩
      rotate_left
      · exact hte
      · cases xo with
        | slot i => exact h2.elim
        | val dx => exact ⟨dx, ρ2, G2, gp, h2.1, h2.2, F2, e2, n2, r2⟩
      rw [hs]
      refine Calls.callWith_builtin (by rfl) (Calls.evalArgs_plain (Calls.spliced_cons (thn A1 fun yv s2 h2 => Calls.spliced_nil ?_)))
      obtain ⟨y, H2, I2, ry, dx, ρ2, G2, gp, hz2, hn, F2, e2, n2, r2, nd2, ap2⟩ := h2
      have keepA : ∀ c ∈ a :: f1, ∀ o, H1 c = some o → H2 c = some o := fun c hc o ho => e2.keep c o ho (apd c hc)
      have apA : ∀ c ∈ a :: f1, ∀ i, c ∉ G2 i := fun c hc => by
        obtain ⟨o, ho, _⟩ := rl1.own _ _ _ c (by rw [eG1']; exact hc)
        exact Fd.apart e2 ho (apd c hc)
      have newA : ∀ c ∈ a :: f1, c ∉ gp := fun c hc => by
        obtain ⟨o, ho, _⟩ := rl1.own _ _ _ c (by rw [eG1']; exact hc)
        exact n2.ne ho (apd c hc)
      have rs2 := rs1.evo Fd e2 fun c hc => apd c (List.mem_cons_of_mem _ hc)
      obtain ⟨b2, y2, exj2, hb2, hHb2, hl2, fp', rs3, nf3, sb3⟩ := Reps.push_at r2 rs2 elj nf1 nd2 fun c hc z => newA c (List.mem_cons_of_mem _ z) hc
      rw [exj] at exj2; cases exj2
      have hba : bb ≠ a := fun z => naf (by rw [← z]; exact hb2)
      have hA2 : H2 a = some (.lst xs) := keepA a List.mem_cons_self _ hH1
      have F3 := F2.off (o := .lst (y2 ++ [y])) hHb2 (apA bb (List.mem_cons_of_mem _ hb2))
      have na3 : a ∉ fp' := fun z => (sb3 a z).elim naf (newA a List.mem_cons_self)
      have F4 := F3.re evl (.lstO (by rw [upd_ne (Ne.symm hba)]; exact hA2) rs3) (List.nodup_cons.mpr ⟨na3, nf3⟩) fun c hc i hi => by
        rcases List.mem_cons.mp hc with z | z
        · subst z; exact apA _ List.mem_cons_self i
        · rcases sb3 c z with z | z
          · exact apA c (List.mem_cons_of_mem _ z) i
          · exact ap2 c z i
      refine thn (mt_append pins s2 σ H2 (.ref bb) [y] (.ref bb) [yv] (fun v H' => v = .non ∧ H' = upd H2 bb (.lst (y2 ++ [y]))) I2 rfl (.cons ry .nil) ⟨bb, y2, y, rfl, rfl, hHb2, by rw [hl2]; exact hz2, rfl, rfl⟩) fun v s3 ⟨vv, H3, I3, rv3, ev3, eH3⟩ => ⟨vv, H3, I3, rv3, hq _ _ ?_⟩
      subst eH3
      refine O.nx _ _ _ _ F4 ⟨fun c o ho n => ?_, fun i c hc => ?_, fun c o ho => ?_⟩ hn
      · have k1 := e1.keep c o ho n
        have k2 : c ∉ a :: f1 := fun z => n il (by rw [← eG1, eG1']; exact z)
        have k3 := e2.keep c o k1 fun i z => by
          obtain ⟨q, hq⟩ := sub_setF_nil i c z
          exact (e1.new q c hq).elim (fun ⟨r, hr⟩ => n r hr) (fun z => by rw [ho] at z; cases z)
        rw [upd_ne (fun z => k2 (by rw [z]; exact List.mem_cons_of_mem _ hb2))]
        exact k3
      · by_cases ei : i = il
        · subst ei
          rw [setF_same] at hc
          rcases List.mem_cons.mp hc with z | z
          · subst z; exact .inl ⟨_, hafl _ List.mem_cons_self⟩
          · rcases sb3 c z with z | z
            · exact .inl ⟨i, by rw [← eG1, eG1']; exact List.mem_cons_of_mem _ z⟩
            · exact (n2.back ed) c z
        · rw [setF_ne ei] at hc
          exact (ed.trans e2).new i c hc
      · obtain ⟨o1, h1⟩ := (ed.trans e2).dom c o ho
        by_cases ec : c = bb
        · exact ⟨_, by rw [ec]; exact upd_same⟩
        · exact ⟨o1, by rw [upd_ne ec]; exact h1⟩
  refine ⟨fun pins s σ H D I ⟨ρ, G, F, Dd, O, h⟩ => ?_⟩
  exact (ps_expr key hsw).run pins s σ H D I ⟨ρ, G, D, Dd, F, O, h, fun _ _ z => z⟩
end
end KW
/-! KWt: defs of a text by their readings; the head's facts. -/
namespace KW
open PySem PySem.Spec L2
open PyProof.Rows hiding St

theorem huK {k : Nat} {A : Around} {n : Nat} (hr : Room k A) (h : n ≤ 200 := by decide) : A.units + n < cLine := by
  have := hr.un
  omega
/-! ### a def's reading as what it does -/
def runP (td : TDS) (N : List Str) : List D → (D → Prop) → Prop := fun ds Q => td { nx := fun _ => Q .non, rt := fun d _ => Q d } (startE N ds)
def runI (td : TDS) (N : List Str) : D → List D → (D → D → Prop) → Prop := fun d0 ds Q => td { nx := fun ρ => ∃ d0', ρ.getD 0 none = some d0' ∧ Q .non d0', rt := fun d ρ => ∃ d0', ρ.getD 0 none = some d0' ∧ Q d d0' } (startE N (d0 :: ds))
/-- the def st stands under the name x -/
def IsDef (K : PySem.W.Frag) (mg : Str → Option Value) (x : Str) (st : Stmt) : Prop := mg x = some (.ref (He.ga K x)) ∧ ∃ fd, FunD K x x (defArgs st) (defBody st) (defScope st) [] [] (He.ga K x) fd
/-- .. and keeps a promise -/
def DefOk (P : Program) (w : World) (K : PySem.W.Frag) (mg : Str → Option Value) (base : Heap) (k : Nat) (x : Str) (ps : List Str) (sp : Sp) : Prop :=
  mg x = some (.ref (He.ga K x)) ∧ PySem.W.keepIn K (.ref (He.ga K x)) = true ∧ ∃ fd, FnG P w K mg base CX0 k (He.ga K x) fd ps sp ∧ Binds K fd ps [] ∧ ∃ oc od osl, K.lookup (He.ga K x) = some ⟨oc, od, .func fd, osl⟩
abbrev BindsN (st : Stmt) (x : Str) (ps : List Str) : Prop := ∀ (kV doc pm : Value) (an : Option Addr) (cdv ct : Value) (us : List Value), us.length = ps.length → bindArgs (PySem.W.fnOf x x (defArgs st) (defBody st) (defScope st) .none kV doc pm an cdv ct) ⟨us, []⟩ = pure (ps.zip us)
section
variable {P : Program} {w : World} {K : PySem.W.Frag} {mg : Str → Option Value} {base : Heap} {x : Str} {st : Stmt} {N ps : List Str} {k n : Nat} {td : TDS}
theorem _root_.L2.FunD.at_ {params : Arguments} {body : List Stmt} {sc : Scope} {dvs : List V} {kws : List (Str × V)} {f : Addr} {fd : FuncData} (F : FunD K x x params body sc dvs kws f fd) : ∃ oc od osl, K.lookup f = some ⟨oc, od, .func fd, osl⟩ := by
  obtain ⟨oc, od, _, _, _, _, _, _, _, osl, _, lk, _⟩ := F.ex
  exact ⟨oc, od, osl, lk⟩
theorem pureDef (F : IsDef K mg x st) (S : FnScope N ps (defScope st)) (hn : ps.length = n) (bn : BindsN st x ps)
    (body : ∀ (cdv : Value) (A : Around) (outer : List _root_.PySem.Env) (s : Shared) (H : Hp) (E : XK), A.guards = some [] → Room k (A.deeper (envOfC x (defScope st) s.heap.objs.size (He.ga K x) cdv)) → PSs (cxOf CX0 P w K mg base N x (defScope st) (He.ga K x) cdv A outer s H E).nox (defBody st) (tS w K none td)) :
    DefOk P w K mg base (k + 1) x ps (spP w K n (runP td N)) := by
  obtain ⟨g, fd, F⟩ := F
  exact ⟨g, F.kp, fd, fn_pure F S hn body fun _ _ _ h => h, F.bindsN bn, F.at_⟩
theorem ioDef (F : IsDef K mg x st) (S : FnScope N ps (defScope st)) (hn : ps.length = n) (bn : BindsN st x ps)
    (body : ∀ (v0 : V) (cdv : Value) (A : Around) (outer : List _root_.PySem.Env) (s : Shared) (H : Hp) (E : XK), A.guards = some [] → Room k (A.deeper (envOfC x (defScope st) s.heap.objs.size (He.ga K x) cdv)) → PSs (cxOf CX0 P w K mg base N x (defScope st) (He.ga K x) cdv A outer s H E).nox (defBody st) (tS w K (some v0) td)) :
    DefOk P w K mg base (k + 1) x ps (spI w K n (runI td N)) := by
  obtain ⟨g, fd, F⟩ := F
  exact ⟨g, F.kp, fd, fn_io F S hn body fun _ _ _ _ h => h, F.bindsN bn, F.at_⟩
theorem pickDef {psT : List Str} {px sx tx : Str} {Ft : D → List D → (D → D → Prop) → Prop} {p1 p2 p3 p4 p5 p6 p7 p8 p9 : Pos} (S : FnScope [px, sx] ps (defScope st)) (F : IsDef K mg x st) (D : DefOk P w K mg base k tx psT (spI w K 2 Ft)) (gL : mg "len" = none)
    (hgT : ∀ (X : Cx), X.env.scope = defScope st → Gl X tx) (hgL : ∀ (X : Cx), X.env.scope = defScope st → Gl X "len") (bn : BindsN st x ps) (hps : ps.length = 2 := by rfl) (hb : defBody st = [.Return (some (.Subscript (.Name sx p1) (.Call (.Name tx p2) [.Name px p3, .Call (.Name "len" p4) [.Name sx p5] [] p6] [] p7) p8)) p9] := by rfl)
    (h1 : (defScope st).names.lookup px = some .local := by rfl) (h2 : (defScope st).names.lookup sx = some .local := by rfl) (hdp : (px == ("__debug__" : Str)) = false := by decide) (hcp : (px == ("__classdict__" : Str)) = false := by decide) (hds : (sx == ("__debug__" : Str)) = false := by decide) (hcs : (sx == ("__classdict__" : Str)) = false := by decide) (hdt : (tx == ("__debug__" : Str)) = false := by decide) :
    DefOk P w K mg base (k + 1) x ps (spPk w K Ft) := by
  obtain ⟨g, fd, F⟩ := F
  obtain ⟨gT, kT, fdT, FT, bT, _⟩ := D
  have b := F.bindsN bn
  refine ⟨g, F.kp, fd, ?_, b, F.at_⟩
  rw [hb] at F
  exact fn_pick S rfl hps F FT gT kT bT gL h1 h2 hgT hgL hdp hcp hds hcs hdt
end
section
variable {X : Cx} {p : Option V} {k n : Nat} {ps : List Str} {x : Str} {p' pos : Pos} {e : Expr} {es : List Expr} {t : TDZ} {F : List D → (D → Prop) → Prop} {FI : D → List D → (D → D → Prop) → Prop}
theorem pd_callD (Df : DefOk X.prog X.w X.K X.mg X.base k x ps (spP X.w X.K n F)) (hgu : X.A.guards = some []) (hr : Room k X.A) (hg : Gl X x) (ha : PA X (e :: es) (tF X.w X.K p t))
    (hdb : (x == ("__debug__" : Str)) = false := by decide) (he : starEach (e :: es) X.env = (false, eval e X.env) :: starEach es X.env := by rfl) (hpl : (backTo pos (starEach es X.env)).any (·.1) = false := by rfl) :
    PE X (.Call (.Name x p') (e :: es) [] pos) (tE X.w X.K p (dCallU n F t)) := by
  obtain ⟨g, kp, fd, Fn, b, _⟩ := Df
  exact pd_call Fn hgu hr hg g kp b pass0 ha hdb he hpl
theorem pd_callID (i : Nat) {y : Str} {yp : Pos} (Df : DefOk X.prog X.w X.K X.mg X.base k x ps (spI X.w X.K n FI)) (hgu : X.A.guards = some []) (hr : Room k X.A) (hg : Gl X x) (hy : PE X (.Name y yp) (tVar i)) (ha : PA X es (tF X.w X.K p t))
    (hdb : (x == ("__debug__" : Str)) = false := by decide) (he : starEach (.Name y yp :: es) X.env = (false, eval (.Name y yp) X.env) :: starEach es X.env := by rfl) (hpl : (backTo pos (starEach es X.env)).any (·.1) = false := by rfl) :
    PE X (.Call (.Name x p') (.Name y yp :: es) [] pos) (tE X.w X.K p (dCallI i n FI t)) := by
  obtain ⟨g, kp, fd, Fn, b, _⟩ := Df
  exact pd_callI i Fn hgu hr hg g kp b pass0 hy ha hdb he hpl
theorem pd_pickAppD {fx px sx : Str} {te : TDE} {p1 p2 p3 cp apos cpos : Pos} (ip il : Nat) (Df : DefOk X.prog X.w X.K X.mg X.base k fx ps (spPk X.w X.K FI)) (hgu : X.A.guards = some []) (hr : Room k X.A) (hg : Gl X fx) (hne : ip ≠ il)
    (hpn : PE X (.Name px p2) (tVar ip)) (hsn : PE X (.Name sx p3) (tVar il)) (he : PE X e (tE X.w X.K p te)) (hdb : (fx == ("__debug__" : Str)) = false := by decide)
    (he1 : starEach [.Name px p2, .Name sx p3] X.env = (false, eval (.Name px p2) X.env) :: starEach [.Name sx p3] X.env := by rfl) (he2 : starEach [.Name sx p3] X.env = (false, eval (.Name sx p3) X.env) :: starEach [] X.env := by rfl) (hpl : (backTo cp (starEach [.Name sx p3] X.env)).any (·.1) = false := by rfl)
    (hbase : attributeBase (.Call (.Name fx p1) [.Name px p2, .Name sx p3] [] cp) "append" X.env (eval (.Call (.Name fx p1) [.Name px p2, .Name sx p3] [] cp) X.env) = eval (.Call (.Name fx p1) [.Name px p2, .Name sx p3] [] cp) X.env := by rfl)
    (hfew : ((backTo cpos (starEach [e] X.env)).all (fun x => !x.1) && (backToKw cpos (keywordEach [] X.env)).all (fun x => x.1.isSome)
      && decide ([e].length + ([] : List Keyword).length + (if ([] : List Keyword).isEmpty then 0 else 1) < 30)) = true := by rfl)
    (hline : (apos.endLine == cpos.line) = true := by rfl) (hs : starEach [e] X.env = (false, eval e X.env) :: starEach [] X.env := by rfl) (hplain : (backTo cpos (starEach [] X.env)).any (·.1) = false := by rfl)
    (hsw : swapsWith (.Call (.Attribute (.Call (.Name fx p1) [.Name px p2, .Name sx p3] [] cp) "append" apos) [e] [] cpos) none pos.line X.env = pure false := by rfl) :
    PS X (.Expr (.Call (.Attribute (.Call (.Name fx p1) [.Name px p2, .Name sx p3] [] cp) "append" apos) [e] [] cpos) pos) (tS X.w X.K p (dPick ip il FI te)) := by
  obtain ⟨g, kp, fd, Fn, b, _⟩ := Df
  exact pd_pickApp ip il Fn hgu hr hg g kp b hne hpn hsn he hdb he1 he2 hpl hbase hfew hline hs hplain hsw
theorem pd_gint {i : Int} (hg : Gl X x) (c : ∃ t, X.mg x = some (.int i t)) (hd : (x == ("__debug__" : Str)) = false := by decide) : PE X (.Name x pos) (tE X.w X.K p (dC (.int i))) := by
  obtain ⟨t, c⟩ := c
  exact pd_const (c := .int i) (pe_glob hg c ⟨t, rfl⟩ hd) fun _ => .int _
theorem pd_gstr {z : Str} (hg : Gl X x) (c : ∃ t, X.mg x = some (.str z t)) (hd : (x == ("__debug__" : Str)) = false := by decide) : PE X (.Name x pos) (tE X.w X.K p (dC (.str z))) := by
  obtain ⟨t, c⟩ := c
  exact pd_const (c := .str z) (pe_glob hg c ⟨t, rfl⟩ hd) fun _ => .str _
end

/-! ### the head's facts, and the modules' table -/
def sysB (K : PySem.W.Frag) : Bool := match K.lookup sysModules with
  | some o => decide (o.cls = .type "dict")
  | none => false
theorem sysB_ok {K : PySem.W.Frag} (h : sysB K = true) : SysD K := by
  unfold sysB at h
  split at h
  · exact ⟨_, by assumption, of_decide_eq_true h⟩
  · cases h
def obsS (n : Nat) (fa : List He.Fa) (fn : List He.DefD) (g : Addr → Option Obj) : Bool × He.AlD := (sysB (He.frG g (sysModules :: He.asD g n)), He.obsD fa fn (He.frG g (sysModules :: He.asD g n)))
def hookS (n : Nat) (fa : List He.Fa) (fn : List He.DefD) : PySem.W.Hook where
  α := Bool × He.AlD
  obs := fun s => obsS n fa fn s.heap.get?
  val := fun _ => (true, He.valD fn)
  says := fun _ h => ∃ K : PySem.W.Frag, K.In h ∧ He.SaysD fa fn K ∧ SysD K
  of := fun _ _ e => ⟨_, He.frG_in, congrArg Prod.snd e, sysB_ok (congrArg Prod.fst e)⟩
  keeps := fun _ _ _ ⟨K, hK, c⟩ k => ⟨K, PySem.W.Frag.In.keeps hK k, c⟩
theorem obsS_eq {n : Nat} {fa : List He.Fa} {fn : List He.DefD} {g : Addr → Option Obj} {s : Shared} (h : ∀ a, g a = s.heap.get? a) : obsS n fa fn g = (hookS n fa fn).obs s := by
  have e : g = s.heap.get? := funext h
  subst e
  rfl
/-- the law's wish of its promise -/
theorem law_sp {w : World} {K : PySem.W.Frag} {F : List D → (D → Prop) → Prop} {n : Nat} (h : ∀ ns : List Int, ns.length ≤ n → F [.lst false (ns.map D.int)] fun d => d = .bl true) (H : Hp) (a : Addr) (ns : List Int) (hl : ns.length ≤ n) (hO : Only H) (hS : SqL K H a (ns.map V.int)) :
    spP w K 1 F [.ref a] H (fun v _ => v = .bl true) fun _ _ _ => False := by
  have rI : ∀ ns : List Int, Reps w K H [] (ns.map V.int) (ns.map D.int) := fun ns => by
    induction ns with
    | nil => exact .nil
    | cons n ns ih => exact .cons (fp := []) (gp := []) (.int n) ih
  have hf : FrL K H a (ns.map V.int) := by
    rcases hS with (h | h) | h
    · rcases hO a with z | ⟨o, xs, z⟩
      · rw [h] at z; cases z
      · rw [h] at z; cases z
    · exact .inl h
    · exact .inr h
  refine ⟨[.lst false (ns.map D.int)], _, rfl, .cons (fp := []) (gp := []) (.lstF hf (rI ns)) .nil, h ns hl, ?_⟩
  rintro d rfl v H' fp _ _ _ r
  cases r; rfl
/-- the law's def, for every base -/
theorem law_fd {P : Program} {w : World} {K : PySem.W.Frag} {mg : Str → Option Value} {st : Stmt} {k : Nat} {sp : Sp} {f : Addr} {x : Str} (hfa : mg "law" = some (.ref f)) (T : IsDef K mg "law" st) (D : ∀ base : Heap, DefOk P w K mg base k "law" [x] sp)
    (bn : BindsN st "law" [x]) : ∃ fd : FuncData, (∀ (s : Shared) (v : Value), BindsTo s fd ⟨[v], []⟩ [(x, v)]) ∧ ∀ base : Heap, K.In base → base.Ns mainGlobals mg → FnG P w K mg base CX0 k f fd [x] sp := by
  obtain ⟨g, fd, F⟩ := T
  rw [hfa] at g; cases g
  have b := FunD.bindsA (ps := [x]) F bn
  refine ⟨fd, fun s v => b s [v] rfl, fun base _ _ => ?_⟩
  obtain ⟨_, _, fd', Fn, _, oc, od, osl, lk⟩ := D base
  obtain ⟨oc', od', osl', lk'⟩ := F.at_
  rw [lk'] at lk; cases lk
  exact Fn
end KW
/-! KWu: the plain side: loops and comprehensions by an invariant; pure comprehensions. -/
namespace KW
open PySem PySem.Spec L2
open PyProof.Rows hiding St

theorem for_ind {g : TGD} {tb : TDS} {Dd : EndsD} (I : List D → Env → Prop) (fin : ∀ ρ, I [] ρ → Dd.nx ρ)
    (step : ∀ (R : Env → Prop) d ds ρ, I (d :: ds) ρ → (∀ ρ', I ds ρ' → R ρ') → g d ρ fun ρ1 => tb { nx := R, rt := Dd.rt, bk := Dd.nx, ct := R } ρ1) : ∀ items ρ, I items ρ → forD g tb Dd items ρ
  | [], ρ, h => fin ρ h
  | d :: ds, ρ, h => step _ d ds ρ h (for_ind I fin step ds)
theorem comp_ind {g : TGD} {tt : TDT} {te : TDE} {vs : List Nat} {Q : List D → Env → Prop} (I : List D → List D → Env → Prop) (fin : ∀ acc ρ, I [] acc ρ → Q acc (wipeE ρ vs))
    (step : ∀ (R : List D → Env → Prop) d ds acc ρ, I (d :: ds) acc ρ → (∀ acc' ρ', I ds acc' ρ' → R acc' ρ') → g d (wipeE ρ vs) fun ρ1 => tt ρ1 fun b ρ2 => if b = true then te ρ2 fun x ρ3 => ∃ dy ρ4, takeO x ρ3 = some (dy, ρ4) ∧ acc.length < sizeLine ∧ R (acc ++ [dy]) ρ4 else R acc ρ2) :
    ∀ items acc ρ, I items acc ρ → compD g tt te vs Q items acc ρ
  | [], acc, ρ, h => fin acc ρ h
  | d :: ds, acc, ρ, h => step (fun acc ρ => compD g tt te vs Q ds acc ρ) d ds acc ρ h (comp_ind I fin step ds)
/-- a pure comprehension over one name -/
theorem comp_fm {i : Nat} {tt : TDT} {te : TDE} {f : D → D} {pr : D → Bool} {ρ : Env} {Q : List D → Env → Prop} (items : List D) (hl : items.length ≤ sizeLine)
    (ht : ∀ d ∈ items, ∀ Q' : Bool → Env → Prop, Q' (pr d) ((ρ.set i none).set i (some d)) → tt ((ρ.set i none).set i (some d)) Q')
    (he : ∀ d ∈ items, pr d = true → ∀ Q' : Opd → Env → Prop, (∀ x ρ', takeO x ρ' = some (f d, (ρ.set i none).set i (some d)) → Q' x ρ') → te ((ρ.set i none).set i (some d)) Q') (hq : Q ((items.filter pr).map f) (ρ.set i none)) : compD (gN i) tt te [i] Q items [] ρ := by
  refine comp_ind (fun ds acc ρ' => ∃ done, items = done ++ ds ∧ acc = (done.filter pr).map f ∧ ρ'.set i none = ρ.set i none) (fun acc ρ' h => ?_) (fun R d ds acc ρ' h k => ?_) items [] ρ ⟨[], rfl, rfl, rfl⟩
  · obtain ⟨done, rfl, rfl, e⟩ := h
    rw [List.append_nil] at hq
    rw [show wipeE ρ' [i] = ρ'.set i none from rfl, e]
    exact hq
  · obtain ⟨done, rfl, rfl, e⟩ := h
    have hm : d ∈ done ++ d :: ds := by simp
    rw [show wipeE ρ' [i] = ρ'.set i none from rfl, e]
    refine ht d hm _ ?_
    have hlen : ((done.filter pr).map f).length < sizeLine := by
      rw [List.length_map]
      have h1 := List.length_filter_le pr done
      rw [List.length_append, List.length_cons] at hl
      omega
    split
    · rename_i hp
      refine he d hm hp _ fun x ρ' hx => ⟨_, _, hx, hlen, k _ _ ⟨done ++ [d], by simp, by simp [hp], by simp⟩⟩
    · rename_i hp
      exact k _ _ ⟨done ++ [d], by simp, by simp [hp], by simp⟩
theorem comp_map {i : Nat} {te : TDE} {f : D → D} {ρ : Env} {Q : List D → Env → Prop} (items : List D) (hl : items.length ≤ sizeLine)
    (he : ∀ d ∈ items, ∀ Q' : Opd → Env → Prop, (∀ x ρ', takeO x ρ' = some (f d, (ρ.set i none).set i (some d)) → Q' x ρ') → te ((ρ.set i none).set i (some d)) Q') (hq : Q (items.map f) (ρ.set i none)) : compD (gN i) dYes te [i] Q items [] ρ :=
  comp_fm (pr := fun _ => true) items hl (fun _ _ _ h => h) (fun d hd _ Q' h => he d hd Q' h) (by rw [List.filter_eq_self.mpr fun _ _ => rfl]; exact hq)
/-- a pure comprehension over pairs -/
theorem comp_map2 {i j : Nat} {te : TDE} {f : D → D → D} {ρ : Env} {Q : List D → Env → Prop} (items : List (D × D)) (hij : i ≠ j) (hl : items.length ≤ sizeLine)
    (he : ∀ p ∈ items, ∀ Q' : Opd → Env → Prop, (∀ x ρ', takeO x ρ' = some (f p.1 p.2, (((ρ.set j none).set i none).set i (some p.1)).set j (some p.2)) → Q' x ρ') → te ((((ρ.set j none).set i none).set i (some p.1)).set j (some p.2)) Q')
    (hq : Q (items.map fun p => f p.1 p.2) ((ρ.set j none).set i none)) : compD (gT 2 (gsCons (gN i) (gsCons (gN j) gsNil))) dYes te [i, j] Q (items.map fun p => .tup [p.1, p.2]) [] ρ := by
  refine comp_ind (fun ds acc ρ' => ∃ done rest, items = done ++ rest ∧ ds = rest.map (fun p => .tup [p.1, p.2]) ∧ acc = done.map (fun p => f p.1 p.2) ∧ (ρ'.set j none).set i none = (ρ.set j none).set i none) (fun acc ρ' h => ?_) (fun R d ds acc ρ' h k => ?_) _ [] ρ ⟨[], items, rfl, rfl, rfl, rfl⟩
  · obtain ⟨done, rest, rfl, e0, rfl, e⟩ := h
    obtain rfl : rest = [] := by simpa using e0.symm
    rw [List.append_nil] at hq
    rw [show wipeE ρ' [i, j] = (ρ'.set j none).set i none from rfl, e]
    exact hq
  · obtain ⟨done, rest, rfl, e0, rfl, e⟩ := h
    cases rest with
    | nil => cases e0
    | cons p rest =>
      obtain ⟨rfl, rfl⟩ : d = .tup [p.1, p.2] ∧ ds = rest.map (fun p => .tup [p.1, p.2]) := by simpa using e0
      have hm : p ∈ done ++ p :: rest := by simp
      rw [show wipeE ρ' [i, j] = (ρ'.set j none).set i none from rfl, e]
      refine ⟨_, rfl, rfl, _, _, rfl, _, _, rfl, rfl, ?_⟩
      unfold dYes
      dsimp only
      rw [if_pos rfl]
      have hlen : (done.map (fun p => f p.1 p.2)).length < sizeLine := by
        rw [List.length_map]
        rw [List.length_append, List.length_cons] at hl
        omega
      refine he p hm _ fun x ρ' hx => ⟨_, _, hx, hlen, k _ _ ⟨done ++ [p], rest, by simp, rfl, by simp, ?_⟩⟩
      exact List.ext_getElem? fun k => by grind
theorem boolsD_map {α : Type} (p : α → Bool) : ∀ l : List α, boolsD (l.map fun d => .bl (p d)) = some (l.map p)
  | [] => rfl
  | a :: l => by
    show (boolsD (l.map fun d => .bl (p d))).map (p a :: ·) = _
    rw [boolsD_map p l]; rfl
theorem allD_map {α : Type} {o : Bool} (p : α → Bool) (l : List α) : allD [.lst o (l.map fun d => .bl (p d))] = some (.bl (l.all p)) := by
  show (boolsD _).map _ = _
  rw [boolsD_map]
  show some (D.bl ((l.map p).all id)) = _
  rw [List.all_map]; rfl
theorem intsD_map {α : Type} (p : α → Int) : ∀ l : List α, intsD (l.map fun d => .int (p d)) = some (l.map p)
  | [] => rfl
  | a :: l => by
    show (intsD (l.map fun d => .int (p d))).map (p a :: ·) = _
    rw [intsD_map p l]; rfl
theorem sumD_map {α : Type} {o : Bool} (p : α → Int) (l : List α) : sumD [.lst o (l.map fun d => .int (p d))] = some (.int (l.map p).sum) := by
  show (intsD _).map _ = _
  rw [intsD_map]; rfl
end KW
/-! KWv: sorted(..), lists times ints, list(text). -/
namespace KW
open PySem PySem.Spec L2
open PyProof.Rows hiding St

theorem reps_zip {w : World} {K : PySem.W.Frag} {H : Hp} : ∀ {ds : List D} {vs : List V} {fp : List Addr}, fp = [] → Reps w K H fp vs ds → ∀ p ∈ vs.zip ds, Rep w K H [] p.1 p.2
  | [], vs, _, _, r, p, hp => by cases r; cases hp
  | d :: ds, vs, fp, e, r, p, hp => by
    cases r with
    | @cons fp gp v vs d ds a b =>
      obtain ⟨rfl, rfl⟩ := List.append_eq_nil_iff.mp e
      rw [List.zip_cons_cons] at hp
      rcases List.mem_cons.mp hp with rfl | h
      · exact a
      · exact reps_zip rfl b p h
theorem reps_of {w : World} {K : PySem.W.Frag} {H : Hp} : ∀ {l : List (V × D)}, (∀ p ∈ l, Rep w K H [] p.1 p.2) → Reps w K H [] (l.map (·.1)) (l.map (·.2))
  | [], _ => .nil
  | p :: l, h => Reps.cons (fp := []) (gp := []) (h p List.mem_cons_self) (reps_of fun q hq => h q (List.mem_cons_of_mem _ hq))
def D.le (a b : D) : Bool := PySem.W.dataLe false D.py a b
def sortOk (ds : List D) : Prop := D.isFzs ds = true ∧ (∀ d ∈ ds, d.flatEq = true) ∧ PySem.W.AllAlike (ds.map D.py) ∧ PySem.W.Sortable (ds.map D.py)
open Classical in
noncomputable def sortD : List D → Option D
  | [.lst _ ds] => if sortOk ds then some (.lst true (ds.mergeSort D.le)) else none
  | _ => none
theorem each_zip : ∀ {ys : List V} {ds : List D} {its : List Value}, ys.length = ds.length → Vals ys its → PySem.W.EachIs (fun (u : Value) (p : V × D) => RelV p.1 u) its (ys.zip ds)
  | [], [], _, _, r => by cases r; exact .nil
  | y :: ys, d :: ds, _, h, r => by
    cases r with
    | cons a b => exact .cons a (each_zip (by simpa using h) b)
theorem vals_each : ∀ {l : List (V × D)} {out : List Value}, PySem.W.EachIs (fun (u : Value) (p : V × D) => RelV p.1 u) out l → Vals (l.map (·.1)) out
  | [], _, h => by cases h; exact .nil
  | p :: l, _, h => by
    cases h with
    | cons a b => exact .cons a (vals_each b)
section
variable {X : Cx}
theorem each_reads {pins : List (Addr × Obj)} {σ : L2.St} {H : Hp} {s : Shared} (I : Inv X pins σ H s) : ∀ {ys : List V} {ds : List D} {its : List Value}, ys.length = ds.length → (∀ p ∈ ys.zip ds, Rep X.w X.K H [] p.1 p.2) → (∀ d ∈ ds, d.plain = true) → Vals ys its → PySem.W.EachIs (fun (u : Value) (p : V × D) => ∃ as, Reads s.heap u p.2.py as) its (ys.zip ds)
  | [], [], _, _, _, _, r => by cases r; exact .nil
  | y :: ys, d :: ds, _, h, hr, hp, r => by
    cases r with
    | cons a b =>
      refine .cons ?_ (each_reads I (by simpa using h) (fun p hq => hr p (List.mem_cons_of_mem _ hq)) (fun d hd => hp d (List.mem_cons_of_mem _ hd)) b)
      exact Rep.reads I d _ _ _ (hr (y, d) List.mem_cons_self) (hp d List.mem_cons_self) a
theorem cd_sorted (hu : X.A.units + 66 < cLine) : CallR X (.builtin "sorted") (cD X.w X.K sortD) := by
  intro pins s σ H xs us Q I r ⟨ds, d, ra, e, k⟩
  unfold sortD at e
  split at e
  · rename_i o ds
    split at e
    · rename_i h
      obtain ⟨hf, hq, ha, hs⟩ := h
      cases e
      obtain ⟨v, fp, rfl, rv⟩ := ra.one
      obtain ⟨a, ys, gp, rfl, hl, r2⟩ := rv.sqL
      have r3 := r2.fz0 hf
      obtain ⟨its, rvs, pl, hz⟩ := I.list hl
      rw [Vals.ref1 r]
      have hl1 : ys.length = ds.length := r3.length
      have hl2 : its.length = ys.length := rvs.length.symm
      have hE : PySem.W.EachIs (fun (u : Value) (p : V × D) => RelV p.1 u) its (ys.zip ds) := each_zip hl1 rvs
      have hR : PySem.W.EachIs (fun (u : Value) (p : V × D) => ∃ as, Reads s.heap u p.2.py as) its (ys.zip ds) := each_reads I hl1 (reps_zip rfl r3) (fun d hd => (flatEq_of (hq d hd)).1) rvs
      have hm : (ys.zip ds).map (fun p => p.2.py) = ds.map D.py := by
        rw [show (fun p : V × D => p.2.py) = D.py ∘ Prod.snd from rfl, ← List.map_map, List.map_snd_zip (by omega)]
      refine PySem.W.sorted_data (enc := fun p : V × D => p.2.py) pl.isList hE hR (by rw [hm]; exact ha) (by rw [hm]; exact hs) (by rw [List.length_zip]; omega) (fun p hp => ?_) fun out ho hO => ?_
      · have := (flatEq_of (hq p.2 (List.of_mem_zip hp).2)).2.2
        omega
      · obtain ⟨ep, he'⟩ := PyProof.Rows.sortedAll_at s.heap its out.toArray
        obtain ⟨srt, hsrt⟩ : ∃ l : List (V × D), (ys.zip ds).mergeSort (PySem.W.dataLe false fun p : V × D => p.2.py) = l := ⟨_, rfl⟩
        rw [hsrt] at hO
        have hperm : srt.Perm (ys.zip ds) := by rw [← hsrt]; exact List.mergeSort_perm _ _
        have e2 : srt.map (·.2) = ds.mergeSort D.le := by
          rw [← hsrt]
          refine (List.map_mergeSort (r := PySem.W.dataLe false fun p : V × D => p.2.py) (s := D.le) (f := fun p : V × D => p.2) (l := ys.zip ds) fun a _ b _ => rfl).trans ?_
          rw [List.map_snd_zip (by omega)]
        have r4 : Reps X.w X.K H [] (srt.map (·.1)) (srt.map (·.2)) := reps_of fun p hp => reps_zip rfl r3 p (hperm.mem_iff.mp hp)
        have v4 : Vals (srt.map (·.1)) out := vals_each hO
        have l4 : (srt.map (·.1)).length ≤ sizeLine := by rw [List.length_map, hperm.length_eq, List.length_zip]; omega
        rw [e2] at r4
        exact ⟨.ref _, upd H (s.heap.objs.size + 1) (.lst (srt.map (·.1))), I.laid (t' := s.toks) (fun _ _ => PyProof.Rows.sortedAll_old) (Nat.le_succ _) ⟨l4, out, ep, v4, he'⟩, rfl, res_lst k r4 (I.hok.fresh (Nat.le_succ _))⟩
    · cases e
  · cases e
/-! ### lists and tuples times ints -/
def repD : D → D → Option D
  | .lst true ds, .int i => if D.isFzs ds = true ∧ -(2 ^ 63) ≤ i ∧ i < 2 ^ 63 ∧ ds.length * i.toNat ≤ sizeLine then some (.lst true (List.replicate i.toNat ds).flatten) else none
  | .tup ds, .int i => if D.isFzs ds = true ∧ ds ≠ [] ∧ 2 ≤ i ∧ i ≤ 1000 ∧ ds.length ≤ 1000 then some (.tup (List.replicate i.toNat ds).flatten) else none
  | _, _ => none
theorem reps_rep {w : World} {K : PySem.W.Frag} {H : Hp} {vs : List V} {ds : List D} (r : Reps w K H [] vs ds) : ∀ n : Nat, Reps w K H [] (List.replicate n vs).flatten (List.replicate n ds).flatten
  | 0 => .nil
  | n + 1 => r.app (reps_rep r n)
theorem od_rep : OpR X (binaryOp .Mult) (rD X.w X.K repD) := by
  intro pins s σ H x y v u Q I rx ry ⟨fx, fy, dx, dy, d, Rx, Ry, e, k⟩
  unfold repD at e
  split at e
  · split at e
    · rename_i hz
      obtain ⟨hf, h1, h2, h3⟩ := hz
      cases e; cases Ry
      cases Rx with
      | lstO ha r =>
        have r := r.fz0 hf
        exact op_rep pins s σ H _ _ v u Q I rx ry ⟨_, _, _, rfl, rfl, ha, h1, h2, by rw [r.length]; exact h3, fun p hp => res_lst k (reps_rep r _) hp⟩
    · cases e
  · split at e
    · rename_i hz
      obtain ⟨hf, hn, h1, h2, h3⟩ := hz
      cases e; cases Ry
      obtain ⟨a, xs, rfl, ha, r⟩ := Rx.sqT
      have r := r.fz0 hf
      exact op_repT pins s σ H _ _ v u Q I rx ry ⟨_, _, _, rfl, rfl, ha, fun z => hn (List.eq_nil_of_length_eq_zero (by rw [← r.length, z]; rfl)), h1, h2, by rw [r.length]; exact h3, fun p hp => res_tup k (reps_rep r _) hp⟩
    · cases e
  · cases e
/-! ### list(text) -/
def chD (x : Str) : List D := x.cps.toList.map fun c => .str ⟨#[c]⟩
def listS : List D → Option D
  | [.str x] => if x.cps.size ≤ sizeLine then some (.lst true (chD x)) else none
  | ds => listD ds
theorem isFzs_ch (x : Str) : D.isFzs (chD x) = true := by
  unfold chD
  rw [D.isFzs_eq]
  simp [D.isFz]
theorem vals_ch {x : Str} {acc : Array Value} (h : ItemsOf (SignAt x) acc x.cps.size) : Vals (x.cps.toList.map fun c => V.str ⟨#[c]⟩) acc.toList := by
  obtain ⟨hs, hi⟩ := h
  have go : ∀ (l : List Nat) (m : List Value), l.length = m.length → (∀ (j : Nat) (v : Value), m[j]? = some v → ∃ c u, l[j]? = some c ∧ v = .str ⟨#[c]⟩ u) → Vals (l.map fun c => V.str ⟨#[c]⟩) m := fun l => by
    induction l with
    | nil =>
      intro m hl _
      have : m = [] := List.eq_nil_of_length_eq_zero hl.symm
      subst this; exact .nil
    | cons c l ih =>
      intro m hl hm
      cases m with
      | nil => cases hl
      | cons v m =>
        refine .cons ?_ (ih m (by simpa using hl) fun j u hu => ?_)
        · obtain ⟨c', u, hc, hv⟩ := hm 0 v rfl
          cases hc
          exact ⟨u, hv⟩
        · exact hm (j + 1) u hu
  refine go _ _ (by rw [Array.length_toList, Array.length_toList, hs]) fun j v hv => ?_
  obtain ⟨c, u, hc, e⟩ := hi j v (by rw [← Array.getElem?_toList]; exact hv)
  exact ⟨c, u, by rw [Array.getElem?_toList]; exact hc, e⟩
theorem reps_ch {w : World} {K : PySem.W.Frag} {H : Hp} : ∀ l : List Nat, Reps w K H [] (l.map fun c => V.str ⟨#[c]⟩) (l.map fun c => D.str ⟨#[c]⟩)
  | [] => .nil
  | c :: l => Reps.cons (fp := []) (gp := []) (.str _) (reps_ch l)
theorem cd_listS (hc : X.calm = true) : CallR X (.type "list") (cD X.w X.K listS) := by
  intro pins s σ H xs us Q I r ⟨ds, d, ra, e, k⟩
  unfold listS at e
  split at e
  · rename_i x
    split at e
    · rename_i hz
      cases e
      obtain ⟨v, fp, rfl, rv⟩ := ra.one
      cases rv
      obtain ⟨u, rfl, t, rfl⟩ := vals1 r
      refine PySem.call_list_str (I.ok.hd hc) x t (fun h' tk acc' c' hk ha hi => ?_) hz
      have lz : (x.cps.toList.map fun c => V.str ⟨#[c]⟩).length ≤ sizeLine := by rw [List.length_map, Array.length_toList]; exact hz
      exact ⟨.ref s.heap.objs.size, _, I.laid (t' := tk) hk (Nat.le_refl _) (show ObjOk X.prog X.w _ h' _ (.lst (x.cps.toList.map fun c => V.str ⟨#[c]⟩)) from ⟨lz, acc'.toList, c', vals_ch hi, ha⟩), rfl, res_lst k (reps_ch _) (I.hok.fresh (Nat.le_refl _))⟩
    · cases e
  · exact cd_list pins s σ H xs us Q I r ⟨_, d, ra, e, k⟩
end
end KW
/-! KV: readings of the defs that many laws share (printed by kwgen.py --share). -/
namespace KW
open PySem PySem.Spec L2
open PyProof.Rows hiding St
abbrev N_is_integer : List Str := ["thing", "least", "most"]
abbrev P_is_integer : List Str := ["thing", "least", "most"]
def rd_is_integer : TDS :=
  (dRet (dAndV (dIsi .int (dVar 0)) (dAndV (dNotV (dIsi .bool (dVar 0))) (dChain leD leD (dVar 1) (dVar 0) (dVar 2)))))
def F_is_integer : List D → (D → Prop) → Prop := runP rd_is_integer N_is_integer
abbrev N_are_letters : List Str := ["thing", "least", "most", "sign"]
abbrev P_are_letters : List Str := ["thing", "least", "most"]
def rd_are_letters : TDS :=
  (dRet (dAndV (dIsi .str (dVar 0)) (dAndV (dChain leD leD (dVar 1) (dCall lenD (dCons (dVar 0) dNil)) (dVar 2)) (dCall allD (dCons (dComp (dIter (dVar 0)) (gN 3) dYes (dBin inO (dVar 3) (dC (.str "abcdefghijklmnopqrstuvwxyz"))) [3]) dNil)))))
def F_are_letters : List D → (D → Prop) → Prop := runP rd_are_letters N_are_letters
abbrev N_are_names : List Str := ["thing", "most", "one", "other", "name"]
abbrev P_are_names : List Str := ["thing", "most"]
def rd_are_names : TDS :=
  (dSeq (dIfS (dOr (dNot (dTru (dIsi .tuple (dVar 0)))) (dOr (dTst (dBin gtD (dCall lenD (dCons (dVar 0) dNil)) (dVar 1))) (dNot (dTru (dCall allD (dCons (dComp (dIter (dVar 0)) (gN 4) dYes (dCallU 3 F_are_letters (zFz (dVar 4) (zFz (dC (.int 1)) (zFz (dC (.int 8)) zNil)))) [4]) dNil)))))) (dRet (dC (.bl false))) dNext)
  (dRet (dCall allD (dCons (dComp (dZip (zFz (dVar 0) (zFz (dSl (dVar 0) (dPart (dC (.int 1))) dNoPart) zNil))) (gT 2 (gsCons (gN 2) (gsCons (gN 3) gsNil))) dYes (dBin ltD (dVar 2) (dVar 3)) [2, 3]) dNil))))
def F_are_names : List D → (D → Prop) → Prop := runP rd_are_names N_are_names
abbrev N_is_effect : List Str := ["flags", "thing", "flag"]
abbrev P_is_effect : List Str := ["flags", "thing"]
def rd_is_effect : TDS :=
  (dSeq (dIfS (dOr (dNot (dTru (dIsi .dict (dVar 1)))) (dNot (dTru (dCall allD (dCons (dComp (dIter (dVar 1)) (gN 2) dYes (dBin inO (dVar 2) (dVar 0)) [2]) dNil))))) (dRet (dC (.bl false))) dNext)
  (dRet (dCall allD (dCons (dComp (dIter (dVar 1)) (gN 2) dYes (dIsi .bool (dBin ixD (dVar 1) (dVar 2))) [2]) dNil))))
def F_is_effect : List D → (D → Prop) → Prop := runP rd_is_effect N_is_effect
abbrev N_are_commands : List Str := ["flags", "thing", "name"]
abbrev P_are_commands : List Str := ["flags", "thing"]
def rd_are_commands : TDS :=
  (dSeq (dIfS (dOr (dNot (dTru (dIsi .dict (dVar 1)))) (dOr (dTst (dBin gtD (dCall lenD (dCons (dVar 1) dNil)) (dC (.int 8)))) (dNot (dTru (dCall allD (dCons (dComp (dIter (dVar 1)) (gN 2) dYes (dCallU 3 F_are_letters (zFz (dVar 2) (zFz (dC (.int 1)) (zFz (dC (.int 8)) zNil)))) [2]) dNil)))))) (dRet (dC (.bl false))) dNext)
  (dRet (dCall allD (dCons (dComp (dIter (dVar 1)) (gN 2) dYes (dCallU 2 F_is_effect (zFz (dVar 0) (zFz (dBin ixD (dVar 1) (dVar 2)) zNil))) [2]) dNil))))
def F_are_commands : List D → (D → Prop) → Prop := runP rd_are_commands N_are_commands
abbrev N_is_binding : List Str := ["flags", "commands", "thing", "keys", "condition", "command"]
abbrev P_is_binding : List Str := ["flags", "commands", "thing"]
def rd_is_binding : TDS :=
  (dSeq (dIfS (dOr (dNot (dTru (dIsi .tuple (dVar 2)))) (dTst (dBin neD (dCall lenD (dCons (dVar 2) dNil)) (dC (.int 3))))) (dRet (dC (.bl false))) dNext)
  (dSeq (dAsg (dVar 2) (gT 3 (gsCons (gN 3) (gsCons (gN 4) (gsCons (gN 5) gsNil)))))
  (dSeq (dIfS (dOr (dNot (dTru (dCallU 3 F_are_letters (zFz (dVar 3) (zFz (dC (.int 1)) (zFz (dC (.int 4)) zNil)))))) (dNot (dTru (dCallU 2 F_is_effect (zFz (dVar 0) (zFz (dVar 4) zNil)))))) (dRet (dC (.bl false))) dNext)
  (dRet (dOrV (dBin isD (dVar 5) (dC .non)) (dAndV (dIsi .str (dVar 5)) (dBin inO (dVar 5) (dVar 1))))))))
def F_is_binding : List D → (D → Prop) → Prop := runP rd_is_binding N_is_binding
abbrev N_are_layers : List Str := ["flags", "commands", "thing", "layer", "binding"]
abbrev P_are_layers : List Str := ["flags", "commands", "thing"]
def rd_are_layers : TDS :=
  (dSeq (dIfS (dOr (dNot (dTru (dIsi .tuple (dVar 2)))) (dNot (dTst (dChain leD leD (dC (.int 1)) (dCall lenD (dCons (dVar 2) dNil)) (dC (.int 4)))))) (dRet (dC (.bl false))) dNext)
  (dSeq (dIfS (dOr (dNot (dTru (dCall allD (dCons (dComp (dIter (dVar 2)) (gN 3) dYes (dIsi .tuple (dVar 3)) [3]) dNil)))) (dTst (dBin gtD (dCall sumD (dCons (dComp (dIter (dVar 2)) (gN 3) dYes (dCall lenD (dCons (dVar 3) dNil)) [3]) dNil)) (dC (.int 16))))) (dRet (dC (.bl false))) dNext)
  (dRet (dCall allD (dCons (dComp2 (dIter (dVar 2)) (gN 3) dYes (dIter (dVar 3)) (gN 4) dYes (dCallU 3 F_is_binding (zFz (dVar 0) (zFz (dVar 1) (zFz (dVar 4) zNil)))) [3, 4] [4]) dNil)))))
def F_are_layers : List D → (D → Prop) → Prop := runP rd_are_layers N_are_layers
abbrev N_is_map : List Str := ["thing", "flags", "outside", "commands", "layers", "wait", "flag"]
abbrev P_is_map : List Str := ["thing"]
def rd_is_map : TDS :=
  (dSeq (dIfS (dOr (dNot (dTru (dIsi .tuple (dVar 0)))) (dTst (dBin neD (dCall lenD (dCons (dVar 0) dNil)) (dC (.int 5))))) (dRet (dC (.bl false))) dNext)
  (dSeq (dAsg (dVar 0) (gT 5 (gsCons (gN 1) (gsCons (gN 2) (gsCons (gN 3) (gsCons (gN 4) (gsCons (gN 5) gsNil)))))))
  (dSeq (dIfS (dOr (dNot (dTru (dCallU 2 F_are_names (zFz (dVar 1) (zFz (dC (.int 3)) zNil))))) (dOr (dNot (dTru (dCallU 2 F_are_names (zFz (dVar 2) (zFz (dC (.int 3)) zNil))))) (dNot (dTru (dCall allD (dCons (dComp (dIter (dVar 2)) (gN 6) dYes (dBin inO (dVar 6) (dVar 1)) [6]) dNil)))))) (dRet (dC (.bl false))) dNext)
  (dRet (dAndV (dCallU 2 F_are_commands (zFz (dVar 1) (zFz (dVar 3) zNil))) (dAndV (dCallU 3 F_are_layers (zFz (dVar 1) (zFz (dVar 3) (zFz (dVar 4) zNil)))) (dCallU 3 F_is_integer (zFz (dVar 5) (zFz (dC (.int 1)) (zFz (dC (.int 1000)) zNil))))))))))
def F_is_map : List D → (D → Prop) → Prop := runP rd_is_map N_is_map
abbrev N_need_map : List Str := ["keymap"]
abbrev P_need_map : List Str := ["keymap"]
def rd_need_map : TDS :=
  (dIfS (dNot (dTru (dCallU 1 F_is_map (zFz (dVar 0) zNil)))) dNever dNext)
def F_need_map : List D → (D → Prop) → Prop := runP rd_need_map N_need_map
abbrev N_has_form : List Str := ["keymap", "thing", "value"]
abbrev P_has_form : List Str := ["keymap", "thing"]
def rd_has_form : TDS :=
  (dSeq (dIfS (dOr (dNot (dTru (dIsi .tuple (dVar 1)))) (dTst (dBin neD (dCall lenD (dCons (dVar 1) dNil)) (dCall lenD (dCons (dBin ixD (dVar 0) (dC (.int 0))) dNil))))) (dRet (dC (.bl false))) dNext)
  (dRet (dCall allD (dCons (dComp (dIter (dVar 1)) (gN 2) dYes (dIsi .bool (dVar 2)) [2]) dNil))))
def F_has_form : List D → (D → Prop) → Prop := runP rd_has_form N_has_form
abbrev N_is_state : List Str := ["keymap", "thing"]
abbrev P_is_state : List Str := ["keymap", "thing"]
def rd_is_state : TDS :=
  (dSeq (dDrop (dCallU 1 F_need_map (zFz (dVar 0) zNil)))
  (dRet (dCallU 2 F_has_form (zFz (dVar 0) (zFz (dVar 1) zNil)))))
def F_is_state : List D → (D → Prop) → Prop := runP rd_is_state N_is_state
abbrev N_spread : List Str := ["_law_cell", "_law_at", "_law_primes", "_law_one", "_law_two", "_law_three"]
abbrev P_spread : List Str := ["_law_cell", "_law_at"]
def rd_spread : TDS :=
  (dSeq (dIfS (dTst (dBin geD (dVar 0) (dBin powD (dC (.int 10)) (dC (.int 18))))) (dRet (dVar 0)) dNext)
  (dSeq (dSet 2 (dLstE (zFz (dC (.int 2147483629)) (zFz (dC (.int 2147483587)) (zFz (dC (.int 2147483579)) (zFz (dC (.int 2147483563)) (zFz (dC (.int 2147483549)) (zFz (dC (.int 2147483543)) (zFz (dC (.int 2147483497)) (zFz (dC (.int 2147483489)) zNil))))))))))
  (dSeq (dSet 2 (dBin addD (dVar 2) (dLstE (zFz (dC (.int 2147483477)) (zFz (dC (.int 2147483423)) (zFz (dC (.int 2147483399)) (zFz (dC (.int 2147483353)) (zFz (dC (.int 2147483323)) zNil))))))))
  (dSeq (dSet 3 (dBin modD (dBin powD (dBin addD (dBin addD (dBin mulD (dBin modD (dVar 0) (dC (.int 1000000007))) (dBin addD (dBin mulD (dC (.int 2)) (dVar 1)) (dC (.int 69069)))) (dBin mulD (dVar 1) (dC (.int 40503)))) (dC (.int 977))) (dC (.int 3))) (dBin ixD (dVar 2) (dBin modD (dVar 1) (dC (.int 13))))))
  (dSeq (dSet 4 (dBin modD (dBin powD (dBin addD (dBin addD (dBin mulD (dVar 3) (dBin addD (dVar 1) (dC (.int 3)))) (dBin modD (dVar 0) (dC (.int 65537)))) (dC (.int 5))) (dC (.int 5))) (dBin ixD (dVar 2) (dBin modD (dBin addD (dVar 1) (dC (.int 5))) (dC (.int 13))))))
  (dSeq (dSet 5 (dBin modD (dBin powD (dBin addD (dBin addD (dVar 4) (dBin modD (dVar 3) (dC (.int 1009)))) (dVar 1)) (dC (.int 3))) (dBin ixD (dVar 2) (dBin modD (dBin addD (dVar 1) (dC (.int 7))) (dC (.int 13))))))
  (dRet (dBin addD (dBin mulD (dBin addD (dBin mulD (dVar 3) (dC (.int 2147483647))) (dVar 4)) (dC (.int 2147483647))) (dVar 5)))))))))
def F_spread : List D → (D → Prop) → Prop := runP rd_spread N_spread
abbrev N_open : List Str := ["_law_script", "_law_cells", "_law_k", "_law_cell"]
abbrev P_open : List Str := ["_law_script"]
def rd_open : TDS :=
  (dSeq (dSet 1 (dCall listD (dCons (dSl (dVar 0) dNoPart (dPart (dC (.int 12)))) dNil)))
  (dSeq (dFor (dEn1 (zFz (dSl (dVar 0) (dPart (dC (.int 12))) (dPart (dC (.int 63)))) zNil)) (gT 2 (gsCons (gN 2) (gsCons (gN 3) gsNil))) (dStore 1 (dBin addD (dBin ixD (dVar 1) (dBin modD (dVar 2) (dC (.int 12)))) (dVar 3)) (dBin modD (dVar 2) (dC (.int 12)))))
  (dRet (dLstE (zFz (dVar 1) (zFz (dC (.int 0)) (zFz (dC (.int 0)) zNil)))))))
def F_open : List D → (D → Prop) → Prop := runP rd_open N_open
abbrev N_take : List Str := ["_law_pen", "_law_many", "_law_at", "_law_cell", "_law_found"]
abbrev P_take : List Str := ["_law_pen", "_law_many"]
def rd_take : TDS :=
  (dSeq (dIfS (dTst (dBin ltD (dBin ixD (dVar 0) (dC (.int 2))) (dVar 1))) (dSeq (dSet 2 (dBin ixD (dVar 0) (dC (.int 1))))
  (dSeq (dSet 3 (dC (.int 0)))
  (dSeq (dIfS (dTst (dBin ltD (dVar 2) (dCall lenD (dCons (dBin ixD (dVar 0) (dC (.int 0))) dNil)))) (dSet 3 (dBin ixD (dBin ixD (dVar 0) (dC (.int 0))) (dVar 2))) (dIfS (dTst (dBin gtD (dCall lenD (dCons (dBin ixD (dVar 0) (dC (.int 0))) dNil)) (dC (.int 0)))) (dSet 3 (dBin modD (dBin ixD (dBin ixD (dVar 0) (dC (.int 0))) (dBin modD (dBin addD (dBin mulD (dVar 2) (dC (.int 5))) (dC (.int 3))) (dCall lenD (dCons (dBin ixD (dVar 0) (dC (.int 0))) dNil)))) (dBin addD (dBin powD (dC (.int 10)) (dC (.int 17))) (dVar 2)))) dNext))
  (dSeq (dStore 0 (dBin addD (dVar 2) (dC (.int 1))) (dC (.int 1)))
  (dStore 0 (dCallU 2 F_spread (zFz (dVar 3) (zFz (dVar 2) zNil))) (dC (.int 2))))))) dNext)
  (dSeq (dSet 4 (dBin modD (dBin ixD (dVar 0) (dC (.int 2))) (dVar 1)))
  (dSeq (dStore 0 (dBin fdivD (dBin ixD (dVar 0) (dC (.int 2))) (dVar 1)) (dC (.int 2)))
  (dRet (dVar 4)))))
def F_take : D → List D → (D → D → Prop) → Prop := runI rd_take N_take
abbrev N_wpick : List Str := ["_law_pen", "_law_some"]
abbrev P_wpick : List Str := ["_law_pen", "_law_some"]
def rd_wpick : TDS :=
  (dRet (dBin ixD (dVar 1) (dCallI 0 2 F_take (zFz (dCall lenD (dCons (dVar 1) dNil)) zNil))))
def F_wpick : D → List D → (D → D → Prop) → Prop := runI rd_wpick N_wpick
abbrev N_weffect : List Str := ["_law_pen", "_law_flags", "_law_found", "_law_flag", "_law_way"]
abbrev P_weffect : List Str := ["_law_pen", "_law_flags"]
def rd_weffect : TDS :=
  (dSeq (dSet 2 (dC (.dct true [])))
  (dSeq (dFor (dIter (dVar 1)) (gN 3) (dSeq (dSet 4 (dCallI 0 2 F_take (zFz (dC (.int 4)) zNil)))
  (dIfS (dTst (dBin ltD (dVar 4) (dC (.int 2)))) (dStore 2 (dBin eqD (dVar 4) (dC (.int 0))) (dVar 3)) dNext)))
  (dRet (dVar 2))))
def F_weffect : D → List D → (D → D → Prop) → Prop := runI rd_weffect N_weffect
abbrev N_wkeys : List Str := ["_law_pen", "_law_letters", "_law_size", "_law_turn"]
abbrev P_wkeys : List Str := ["_law_pen", "_law_letters"]
def rd_wkeys : TDS :=
  (dSeq (dSet 2 (dCallI 0 2 F_wpick (zFz (dLstE (zFz (dC (.int 1)) (zFz (dC (.int 2)) (zFz (dC (.int 2)) (zFz (dC (.int 3)) (zFz (dC (.int 3)) (zFz (dC (.int 4)) zNil))))))) zNil)))
  (dRet (dMeth .str joinD (dC (.str "")) (dCons (dComp (dRng1 (zFz (dVar 2) zNil)) (gN 3) dYes (dCallI 0 2 F_wpick (zFz (dVar 1) zNil)) [3]) dNil))))
def F_wkeys : D → List D → (D → D → Prop) → Prop := runI rd_wkeys N_wkeys
abbrev N_wbinding : List Str := ["_law_pen", "_law_flags", "_law_names", "_law_letters", "_law_keys", "_law_condition"]
abbrev P_wbinding : List Str := ["_law_pen", "_law_flags", "_law_names", "_law_letters"]
def rd_wbinding : TDS :=
  (dSeq (dPar 4 5 (zTake (dCallI 0 2 F_wkeys (zFz (dVar 3) zNil)) (zTake (dCallI 0 2 F_weffect (zFz (dVar 1) zNil)) zNil)))
  (dSeq (dIfS (dOr (dTst (dBin eqD (dVar 2) (dLstE zNil))) (dTst (dBin eqD (dCallI 0 2 F_take (zFz (dC (.int 5)) zNil)) (dC (.int 0))))) (dRet (dTupE (zFz (dVar 4) (zFz (dVar 5) (zFz (dC .non) zNil))))) dNext)
  (dRet (dTupE (zFz (dVar 4) (zFz (dVar 5) (zFz (dCallI 0 2 F_wpick (zFz (dVar 2) zNil)) zNil)))))))
def F_wbinding : D → List D → (D → D → Prop) → Prop := runI rd_wbinding N_wbinding
abbrev N_wmap : List Str := ["_law_pen", "_law_most", "_law_flags", "_law_outside", "_law_names", "_law_commands", "_law_letters", "_law_layers", "_law_turn", "_law_wait", "_law_name", "_law_flag", "_law_layer"]
abbrev P_wmap : List Str := ["_law_pen", "_law_most"]
def rd_wmap : TDS :=
  (dSeq (dSet 2 (dCall tupleD (dCons (dComp (dIter (dLstE (zFz (dC (.str "caps")) (zFz (dC (.str "ins")) (zFz (dC (.str "sel")) zNil))))) (gN 11) (dTst (dBin gtD (dCallI 0 2 F_take (zFz (dC (.int 3)) zNil)) (dC (.int 0)))) (dVar 11) [11]) dNil)))
  (dSeq (dSet 3 (dCall tupleD (dCons (dComp (dIter (dVar 2)) (gN 11) (dTst (dBin eqD (dCallI 0 2 F_take (zFz (dC (.int 2)) zNil)) (dC (.int 0)))) (dVar 11) [11]) dNil)))
  (dSeq (dSetC 4 (dComp (dIter (dLstE (zFz (dC (.str "down")) (zFz (dC (.str "layer")) (zFz (dC (.str "nothing")) (zFz (dC (.str "on")) (zFz (dC (.str "up")) zNil))))))) (gN 10) (dTst (dBin gtD (dCallI 0 2 F_take (zFz (dC (.int 4)) zNil)) (dC (.int 0)))) (dVar 10) [10]))
  (dSeq (dSet 5 (dCall dictD (dCons (dComp (dIter (dStep (dVar 4) (dCallI 0 2 F_wpick (zFz (dLstE (zFz (dC (.int 1)) (zFz (dUn negD (dC (.int 1))) zNil))) zNil)))) (gN 10) dYes (dTupE (zFz (dVar 10) (zFz (dCallI 0 2 F_weffect (zFz (dVar 2) zNil)) zNil))) [10]) dNil)))
  (dSeq (dSet 6 (dCallI 0 2 F_wpick (zFz (dLstE (zFz (dC (.str "ab")) (zFz (dC (.str "abc")) (zFz (dC (.str "jk")) (zFz (dC (.str "amxz")) zNil))))) zNil)))
  (dSeq (dSetC 7 (dComp (dRng1 (zFz (dBin addD (dC (.int 1)) (dCallI 0 2 F_take (zFz (dC (.int 4)) zNil))) zNil)) (gN 8) dYes (dLstE zNil) [8]))
  (dSeq (dFor (dRng1 (zFz (dCallI 0 2 F_take (zFz (dBin addD (dVar 1) (dC (.int 1))) zNil)) zNil)) (gN 8) (dPick 0 7 F_take (dCallI 0 4 F_wbinding (zFz (dVar 2) (zFz (dVar 4) (zFz (dVar 6) zNil))))))
  (dSeq (dSet 9 (dCallI 0 2 F_wpick (zFz (dLstE (zFz (dC (.int 1)) (zFz (dC (.int 2)) (zFz (dC (.int 5)) (zFz (dBin addD (dC (.int 1)) (dCallI 0 2 F_take (zFz (dC (.int 1000)) zNil))) zNil))))) zNil)))
  (dRet (dTupE (zFz (dVar 2) (zFz (dVar 3) (zFz (dVar 5) (zFz (dCall tupleD (dCons (dComp (dIter (dVar 7)) (gN 12) dYes (dCall tupleD (dCons (dVar 12) dNil)) [12]) dNil)) (zFz (dVar 9) zNil)))))))))))))))
def F_wmap : D → List D → (D → D → Prop) → Prop := runI rd_wmap N_wmap
abbrev N_wstate : List Str := ["_law_pen", "_law_keymap", "_law_flag"]
abbrev P_wstate : List Str := ["_law_pen", "_law_keymap"]
def rd_wstate : TDS :=
  (dRet (dCall tupleD (dCons (dComp (dIter (dBin ixD (dVar 1) (dC (.int 0)))) (gN 2) dYes (dBin eqD (dCallI 0 2 F_take (zFz (dC (.int 2)) zNil)) (dC (.int 0))) [2]) dNil)))
def F_wstate : D → List D → (D → D → Prop) → Prop := runI rd_wstate N_wstate
end KW
/-! KV2: more readings of defs that laws share (printed by kwgen.py --share, kv2.py). -/
namespace KW
open PySem PySem.Spec L2
open PyProof.Rows hiding St
abbrev N_is_time : List Str := ["thing"]
abbrev P_is_time : List Str := ["thing"]
def rd_is_time : TDS :=
  (dRet (dCallU 3 F_is_integer (zFz (dVar 0) (zFz (dC (.int 0)) (zFz (dC (.int 1000000000)) zNil)))))
def F_is_time : List D → (D → Prop) → Prop := runP rd_is_time N_is_time
abbrev N_is_entry : List Str := ["keymap", "thing"]
abbrev P_is_entry : List Str := ["keymap", "thing"]
def rd_is_entry : TDS :=
  (dSeq (dIfS (dOr (dNot (dTru (dIsi .tuple (dVar 1)))) (dNot (dTru (dCallU 1 F_is_time (zFz (dIf (dTst (dBin neD (dVar 1) (dTupE zNil))) (dBin ixD (dVar 1) (dUn negD (dC (.int 1)))) (dC .non)) zNil))))) (dRet (dC (.bl false))) dNext)
  (dSeq (dIfS (dTst (dBin eqD (dCall lenD (dCons (dVar 1) dNil)) (dC (.int 3)))) (dRet (dAndV (dBin eqD (dBin ixD (dVar 1) (dC (.int 0))) (dC (.str "key"))) (dCallU 3 F_are_letters (zFz (dBin ixD (dVar 1) (dC (.int 1))) (zFz (dC (.int 1)) (zFz (dC (.int 1)) zNil)))))) dNext)
  (dRet (dAndV (dBin eqD (dCall lenD (dCons (dVar 1) dNil)) (dC (.int 4))) (dAndV (dBin eqD (dBin ixD (dVar 1) (dC (.int 0))) (dC (.str "set"))) (dAndV (dBin inO (dBin ixD (dVar 1) (dC (.int 1))) (dBin ixD (dVar 0) (dC (.int 1)))) (dIsi .bool (dBin ixD (dVar 1) (dC (.int 2))))))))))
def F_is_entry : List D → (D → Prop) → Prop := runP rd_is_entry N_is_entry
abbrev N_is_row : List Str := ["keymap", "thing", "one", "other"]
abbrev P_is_row : List Str := ["keymap", "thing"]
def rd_is_row : TDS :=
  (dSeq (dDrop (dCallU 1 F_need_map (zFz (dVar 0) zNil)))
  (dSeq (dIfS (dOr (dNot (dTru (dIsi .list (dVar 1)))) (dOr (dTst (dBin gtD (dCall lenD (dCons (dVar 1) dNil)) (dC (.int 300)))) (dNot (dTru (dCall allD (dCons (dComp (dIter (dVar 1)) (gN 2) dYes (dCallU 2 F_is_entry (zFz (dVar 0) (zFz (dVar 2) zNil))) [2]) dNil)))))) (dRet (dC (.bl false))) dNext)
  (dRet (dCall allD (dCons (dComp (dZip (zFz (dVar 1) (zFz (dSl (dVar 1) (dPart (dC (.int 1))) dNoPart) zNil))) (gT 2 (gsCons (gN 2) (gsCons (gN 3) gsNil))) dYes (dBin leD (dBin ixD (dVar 2) (dUn negD (dC (.int 1)))) (dBin ixD (dVar 3) (dUn negD (dC (.int 1))))) [2, 3]) dNil)))))
def F_is_row : List D → (D → Prop) → Prop := runP rd_is_row N_is_row
abbrev N_wletters : List Str := ["_law_pen", "_law_keymap", "_law_found", "_law_layer", "_law_keys", "_law_condition", "_law_command"]
abbrev P_wletters : List Str := ["_law_pen", "_law_keymap"]
def rd_wletters : TDS :=
  (dSeq (dSet 2 (dLstE (zFz (dBin ixD (dC (.str "abcdefghijklmnopqrstuvwxyz")) (dCallI 0 2 F_take (zFz (dC (.int 26)) zNil))) zNil)))
  (dSeq (dFor (dIter (dBin ixD (dVar 1) (dC (.int 3)))) (gN 3) (dFor (dIter (dVar 3)) (gT 3 (gsCons (gN 4) (gsCons (gN 5) (gsCons (gN 6) gsNil)))) (dSet 2 (dBin addD (dVar 2) (dCall listS (dCons (dVar 4) dNil))))))
  (dRet (dCall sortD (dCons (dVar 2) dNil)))))
def F_wletters : D → List D → (D → D → Prop) → Prop := runI rd_wletters N_wletters
abbrev N_wrow : List Str := ["_law_pen", "_law_keymap", "_law_most", "_law_letters", "_law_wait", "_law_row", "_law_time", "_law_turn"]
abbrev P_wrow : List Str := ["_law_pen", "_law_keymap", "_law_most"]
def rd_wrow : TDS :=
  (dSeq (dPar 3 4 (zTake (dCallI 0 2 F_wletters (zFz (dVar 1) zNil)) (zTake (dBin ixD (dVar 1) (dC (.int 4))) zNil)))
  (dSeq (dSet 5 (dLstE zNil))
  (dSeq (dSet 6 (dCallI 0 2 F_wpick (zFz (dLstE (zFz (dC (.int 0)) (zFz (dC (.int 0)) (zFz (dC (.int 7)) zNil)))) zNil)))
  (dSeq (dFor (dRng1 (zFz (dCallI 0 2 F_take (zFz (dBin addD (dVar 2) (dC (.int 1))) zNil)) zNil)) (gN 7) (dSeq (dIfS (dAnd (dTst (dBin gtD (dCall lenD (dCons (dBin ixD (dVar 1) (dC (.int 1))) dNil)) (dC (.int 0)))) (dTst (dBin eqD (dCallI 0 2 F_take (zFz (dC (.int 6)) zNil)) (dC (.int 0))))) (dDrop (dMut 5 .list appendD (zTake (dTupE (zFz (dC (.str "set")) (zFz (dCallI 0 2 F_wpick (zFz (dBin ixD (dVar 1) (dC (.int 1))) zNil)) (zFz (dBin eqD (dCallI 0 2 F_take (zFz (dC (.int 2)) zNil)) (dC (.int 0))) (zFz (dVar 6) zNil))))) zNil))) (dDrop (dMut 5 .list appendD (zTake (dTupE (zFz (dC (.str "key")) (zFz (dCallI 0 2 F_wpick (zFz (dVar 3) zNil)) (zFz (dVar 6) zNil)))) zNil))))
  (dSet 6 (dBin addD (dVar 6) (dCallI 0 2 F_wpick (zFz (dLstE (zFz (dC (.int 0)) (zFz (dC (.int 0)) (zFz (dC (.int 1)) (zFz (dC (.int 1)) (zFz (dBin subD (dVar 4) (dC (.int 1))) (zFz (dVar 4) (zFz (dBin addD (dVar 4) (dC (.int 1))) (zFz (dBin mulD (dC (.int 3)) (dVar 4)) zNil))))))))) zNil))))))
  (dRet (dVar 5))))))
def F_wrow : D → List D → (D → D → Prop) → Prop := runI rd_wrow N_wrow
abbrev N_wis_entry : List Str := ["_law_keymap", "_law_thing", "_law_time", "_law_is_letter"]
abbrev P_wis_entry : List Str := ["_law_keymap", "_law_thing"]
def rd_wis_entry : TDS :=
  (dSeq (dIfS (dOr (dNot (dTru (dIsi .tuple (dVar 1)))) (dTst (dBin ninO (dCall lenD (dCons (dVar 1) dNil)) (dTupE (zFz (dC (.int 3)) (zFz (dC (.int 4)) zNil)))))) (dRet (dC (.bl false))) dNext)
  (dSeq (dSet 2 (dBin ixD (dVar 1) (dUn negD (dC (.int 1)))))
  (dSeq (dIfS (dOr (dNot (dTru (dIsi .int (dVar 2)))) (dOr (dTru (dIsi .bool (dVar 2))) (dNot (dTst (dChain leD leD (dC (.int 0)) (dVar 2) (dBin powD (dC (.int 10)) (dC (.int 9)))))))) (dRet (dC (.bl false))) dNext)
  (dSeq (dIfS (dTst (dBin eqD (dCall lenD (dCons (dVar 1) dNil)) (dC (.int 3)))) (dSeq (dSet 3 (dAndV (dIsi .str (dBin ixD (dVar 1) (dC (.int 1)))) (dAndV (dBin eqD (dCall lenD (dCons (dBin ixD (dVar 1) (dC (.int 1))) dNil)) (dC (.int 1))) (dChain leD leD (dC (.str "a")) (dBin ixD (dVar 1) (dC (.int 1))) (dC (.str "z"))))))
  (dRet (dAndV (dBin eqD (dBin ixD (dVar 1) (dC (.int 0))) (dC (.str "key"))) (dVar 3)))) dNext)
  (dRet (dAndV (dBin eqD (dBin ixD (dVar 1) (dC (.int 0))) (dC (.str "set"))) (dAndV (dBin inO (dBin ixD (dVar 1) (dC (.int 1))) (dCall listD (dCons (dBin ixD (dVar 0) (dC (.int 1))) dNil))) (dIsi .bool (dBin ixD (dVar 1) (dC (.int 2)))))))))))
def F_wis_entry : List D → (D → Prop) → Prop := runP rd_wis_entry N_wis_entry
abbrev N_wis_row : List Str := ["_law_keymap", "_law_thing", "_law_times", "_law_entry"]
abbrev P_wis_row : List Str := ["_law_keymap", "_law_thing"]
def rd_wis_row : TDS :=
  (dSeq (dIfS (dOr (dNot (dTru (dIsi .list (dVar 1)))) (dTst (dBin gtD (dCall lenD (dCons (dVar 1) dNil)) (dC (.int 300))))) (dRet (dC (.bl false))) dNext)
  (dSeq (dIfS (dTst (dBin inO (dC (.bl false)) (dComp (dIter (dVar 1)) (gN 3) dYes (dCallU 2 F_wis_entry (zFz (dVar 0) (zFz (dVar 3) zNil))) [3]))) (dRet (dC (.bl false))) dNext)
  (dSeq (dSetC 2 (dComp (dIter (dVar 1)) (gN 3) dYes (dBin ixD (dVar 3) (dUn negD (dC (.int 1)))) [3]))
  (dRet (dBin eqD (dVar 2) (dCall sortD (dCons (dVar 2) dNil)))))))
def F_wis_row : List D → (D → Prop) → Prop := runP rd_wis_row N_wis_row
abbrev N_wwrong : List Str := ["_law_pen", "_law_word", "_law_signs", "_law_at"]
abbrev P_wwrong : List Str := ["_law_pen", "_law_word"]
def rd_wwrong : TDS :=
  (dSeq (dSet 2 (dBin addD (dC (.str " !#$&'()*+,-./0123456789:;<=>?@ABCDEFGHIJKLMNOPQRSTUVWXYZ[]^_{|}~")) (dC (.str "`"))))
  (dSeq (dSet 3 (dCallI 0 2 F_take (zFz (dCall lenD (dCons (dVar 1) dNil)) zNil)))
  (dRet (dBin addD (dBin addD (dSl (dVar 1) dNoPart (dPart (dVar 3))) (dBin ixD (dVar 2) (dCallI 0 2 F_take (zFz (dCall lenD (dCons (dVar 2) dNil)) zNil)))) (dSl (dVar 1) (dPart (dBin addD (dVar 3) (dC (.int 1)))) dNoPart)))))
def F_wwrong : D → List D → (D → D → Prop) → Prop := runI rd_wwrong N_wwrong
abbrev N_wbad_row : List Str := ["_law_pen", "_law_keymap", "_law_row", "_law_flag", "_law_at", "_law_time", "_law_some", "_law_bads", "_law_found", "_law_bad", "_law_word"]
abbrev P_wbad_row : List Str := ["_law_pen", "_law_keymap", "_law_row"]
def rd_wbad_row : TDS :=
  (dSeq (dSet 3 (dBin ixD (dBin addD (dBin addD (dBin ixD (dVar 1) (dC (.int 1))) (dBin ixD (dVar 1) (dC (.int 0)))) (dTupE (zFz (dC (.str "caps")) zNil))) (dC (.int 0))))
  (dSeq (dSet 4 (dCallI 0 2 F_take (zFz (dBin addD (dCall lenD (dCons (dVar 2) dNil)) (dC (.int 1))) zNil)))
  (dSeq (dSet 5 (dIf (dTst (dBin ltD (dVar 4) (dCall lenD (dCons (dVar 2) dNil)))) (dBin ixD (dBin ixD (dVar 2) (dVar 4)) (dUn negD (dC (.int 1)))) (dIf (dTst (dBin neD (dVar 2) (dLstE zNil))) (dBin ixD (dBin ixD (dVar 2) (dUn negD (dC (.int 1)))) (dUn negD (dC (.int 1)))) (dC (.int 0)))))
  (dSeq (dSet 6 (dLstE (zFz (dTupE (zFz (dC (.str "key")) (zFz (dC (.str "A")) (zFz (dVar 5) zNil)))) (zFz (dTupE (zFz (dC (.str "key")) (zFz (dC (.str "ab")) (zFz (dVar 5) zNil)))) (zFz (dTupE (zFz (dC (.str "key")) (zFz (dC (.str "")) (zFz (dVar 5) zNil)))) (zFz (dTupE (zFz (dC (.str "key")) (zFz (dC (.str "a")) zNil))) (zFz (dTupE (zFz (dC (.str "key")) (zFz (dC (.str "a")) (zFz (dVar 5) (zFz (dVar 5) zNil))))) (zFz (dTupE zNil) zNil))))))))
  (dSeq (dSet 6 (dBin addD (dBin addD (dVar 6) (dComp (dIter (dLstE (zFz (dC (.str "Set")) (zFz (dC (.str "key")) (zFz (dC .non) (zFz (dLstE (zFz (dC (.str "set")) zNil)) zNil)))))) (gN 10) dYes (dTupE (zFz (dVar 10) (zFz (dVar 3) (zFz (dC (.bl true)) (zFz (dVar 5) zNil))))) [10])) (dLstE (zFz (dTupE (zFz (dC (.str "set")) (zFz (dVar 3) (zFz (dC (.bl true)) (zFz (dVar 5) zNil))))) zNil))))
  (dSeq (dSet 6 (dBin addD (dVar 6) (dBin repD (dLstE (zFz (dTupE (zFz (dC (.str "key")) (zFz (dCallI 0 2 F_wwrong (zFz (dC (.str "a")) zNil)) (zFz (dVar 5) zNil)))) zNil)) (dC (.int 4)))))
  (dSeq (dSet 6 (dBin addD (dVar 6) (dLstE (zFz (dLstE (zFz (dC (.str "key")) (zFz (dC (.str "a")) (zFz (dVar 5) zNil)))) (zFz (dTupE (zFz (dC (.str "set")) (zFz (dC (.str "absent")) (zFz (dC (.bl true)) (zFz (dVar 5) zNil))))) (zFz (dTupE (zFz (dC (.str "set")) (zFz (dVar 3) (zFz (dC (.int 1)) (zFz (dVar 5) zNil))))) (zFz (dTupE (zFz (dC (.str "set")) (zFz (dVar 3) (zFz (dC .non) (zFz (dVar 5) zNil))))) zNil)))))))
  (dSeq (dSet 6 (dBin addD (dVar 6) (dLstE (zFz (dTupE (zFz (dC (.str "set")) (zFz (dVar 3) (zFz (dVar 5) zNil)))) (zFz (dTupE (zFz (dC (.str "Key")) (zFz (dC (.str "a")) (zFz (dVar 5) zNil)))) (zFz (dTupE (zFz (dC (.str "key")) (zFz (dC .non) (zFz (dVar 5) zNil)))) (zFz (dTupE (zFz (dC (.str "set")) (zFz (dC .non) (zFz (dC (.bl true)) (zFz (dVar 5) zNil))))) (zFz (dC .non) (zFz (dC (.str "key")) zNil)))))))))
  (dSeq (dSet 6 (dBin addD (dVar 6) (dComp (dIter (dLstE (zFz (dUn negD (dC (.int 1))) (zFz (dBin addD (dBin powD (dC (.int 10)) (dC (.int 9))) (dC (.int 1))) (zFz (dC (.bl true)) (zFz (dC (.str "0")) (zFz (dC .non) (zFz (dLstE zNil) (zFz (dBin subD (dVar 5) (dC (.int 1))) (zFz (dBin powD (dC (.int 10)) (dC (.int 9))) (zFz (dBin addD (dVar 5) (dC (.int 1))) zNil))))))))))) (gN 9) dYes (dTupE (zFz (dC (.str "key")) (zFz (dC (.str "a")) (zFz (dVar 9) zNil)))) [9])))
  (dSeq (dSet 7 (dLstE (zFz (dUn negD (dC (.int 1))) (zFz (dBin addD (dBin powD (dC (.int 10)) (dC (.int 9))) (dC (.int 1))) (zFz (dC (.bl true)) (zFz (dC (.str "0")) (zFz (dC .non) (zFz (dLstE zNil) (zFz (dBin subD (dVar 5) (dC (.int 1))) (zFz (dBin powD (dC (.int 10)) (dC (.int 9))) (zFz (dBin addD (dVar 5) (dC (.int 1))) zNil)))))))))))
  (dSeq (dSet 6 (dBin addD (dBin addD (dVar 6) (dComp (dIter (dVar 7)) (gN 9) dYes (dTupE (zFz (dC (.str "set")) (zFz (dVar 3) (zFz (dC (.bl false)) (zFz (dVar 9) zNil))))) [9])) (dLstE (zFz (dTupE (zFz (dC (.str "key")) (zFz (dLstE (zFz (dC (.str "a")) zNil)) (zFz (dVar 5) zNil)))) zNil))))
  (dSeq (dSet 6 (dBin addD (dVar 6) (dLstE (zFz (dTupE (zFz (dC (.str "set")) (zFz (dLstE (zFz (dVar 3) zNil)) (zFz (dC (.bl true)) (zFz (dVar 5) zNil))))) (zFz (dTupE (zFz (dC .non) (zFz (dC (.str "a")) (zFz (dVar 5) zNil)))) (zFz (dTupE (zFz (dLstE (zFz (dC (.str "key")) zNil)) (zFz (dC (.str "a")) (zFz (dVar 5) zNil)))) (zFz (dTupE (zFz (dC (.str "key")) (zFz (dC (.str "a")) (zFz (dTupE (zFz (dVar 5) zNil)) zNil)))) zNil)))))))
  (dSeq (dSet 8 (dBin addD (dBin addD (dSl (dVar 2) dNoPart (dPart (dVar 4))) (dLstE (zFz (dCallI 0 2 F_wpick (zFz (dVar 6) zNil)) zNil))) (dSl (dVar 2) (dPart (dBin addD (dVar 4) (dCallI 0 2 F_take (zFz (dC (.int 2)) zNil)))) dNoPart)))
  (dRet (dCallI 0 2 F_wpick (zFz (dBin addD (dBin repD (dLstE (zFz (dVar 8) zNil)) (dC (.int 12))) (dLstE (zFz (dCall tupleD (dCons (dVar 2) dNil)) (zFz (dC .non) (zFz (dC (.dct true [])) (zFz (dC (.str "row")) (zFz (dStep (dVar 2) (dUn negD (dC (.int 1)))) (zFz (dBin addD (dVar 2) (dVar 2)) (zFz (dTupE (zFz (dVar 8) zNil)) (zFz (dC (.int 5)) zNil)))))))))) zNil))))))))))))))))
def F_wbad_row : D → List D → (D → D → Prop) → Prop := runI rd_wbad_row N_wbad_row
end KW
set_option maxHeartbeats 1000000
/-! KS1: the drawing defs: what may be drawn. -/
namespace KW
open PySem PySem.Spec L2
open PyProof.Rows hiding St
theorem atI_in {α : Type} {xs : List α} {i : Int} (h0 : 0 ≤ i) (h1 : i < xs.length) : atI xs i = xs[i.toNat]? := by
  unfold L2.atI L2.ixN
  rw [if_pos h0, if_pos h1]; rfl
theorem atI_mem {α : Type} {xs : List α} {i : Int} (h0 : 0 ≤ i) (h1 : i < xs.length) : ∃ x ∈ xs, atI xs i = some x := by
  rw [atI_in h0 h1]
  have hj : i.toNat < xs.length := by omega
  exact ⟨xs[i.toNat], List.getElem_mem hj, List.getElem?_eq_getElem hj⟩
theorem isFzs_map {α : Type} (f : α → D) (h : ∀ a, (f a).isFz = true) (l : List α) : D.isFzs (l.map f) = true := by
  rw [D.isFzs_eq, List.all_map, List.all_eq_true]
  exact fun a _ => h a
theorem fzs_map {α : Type} (f : α → D) (h : ∀ a, (f a).fz = f a) (l : List α) : D.fzs (l.map f) = l.map f := by
  rw [D.fzs_eq, List.map_map]
  exact List.map_congr_left fun a _ => h a
@[simp] theorem isFzs_ints (l : List Int) : D.isFzs (l.map D.int) = true := isFzs_map _ (fun _ => rfl) l
@[simp] theorem fzs_ints (l : List Int) : D.fzs (l.map D.int) = l.map D.int := fzs_map _ (fun _ => rfl) l
theorem atI3_0 {α : Type} (a b c : α) : atI [a, b, c] 0 = some a := rfl
theorem atI3_1 {α : Type} (a b c : α) : atI [a, b, c] 1 = some b := rfl
theorem atI3_2 {α : Type} (a b c : α) : atI [a, b, c] 2 = some c := rfl
theorem ixN3_1 : ixN 3 1 = some 1 := rfl
theorem ixN3_2 : ixN 3 2 = some 2 := rfl
/-- a pen, of which at most n cells were asked -/
def PenOk (n : Nat) (d : D) : Prop := ∃ (cells : List Int) (at_ left : Int), d = .lst true [.lst false (cells.map .int), .int at_, .int left] ∧ 0 ≤ at_ ∧ at_ ≤ n
theorem PenOk.mono {n m : Nat} {d : D} (h : PenOk n d) (k : n ≤ m) : PenOk m d := by
  obtain ⟨c, a, l, e, h0, h1⟩ := h
  exact ⟨c, a, l, e, h0, by omega⟩
/-! ### pure values, one by one -/
def Ev (te : TDE) (ρ : Env) (d : D) : Prop := ∀ Q : Opd → Env → Prop, (∀ x, x.get ρ = some d → Q x ρ) → te ρ Q
/-- a new value -/
def EvV (te : TDE) (ρ : Env) (d : D) : Prop := ∀ Q : Opd → Env → Prop, Q (.val d) ρ → te ρ Q
theorem EvV.ev {te : TDE} {ρ : Env} {d : D} (h : EvV te ρ d) : Ev te ρ d := fun Q q => h Q (q _ rfl)
section
variable {ρ : Env} {ta tb te : TDE} {a b d : D} {f : D → D → Option D}
theorem evv_c : EvV (dC d) ρ d := fun Q q => q
theorem evv_bin (ha : Ev ta ρ a) (hb : Ev tb ρ b) (h : f a b = some d) : EvV (dBin f ta tb) ρ d := fun Q q => ha _ fun x hx => hb _ fun y hy => ⟨a, hx, b, hy, d, h, q⟩
theorem evv_call1 {f : List D → Option D} (ha : Ev ta ρ a) (h : f [a] = some d) : EvV (dCall f (dCons ta dNil)) ρ d := fun Q q => ha _ fun x hx => ⟨[a], by show (match x.get ρ, getAll ρ [] with | some d, some ds => some (d :: ds) | _, _ => none) = _; rw [hx]; rfl, d, h, q⟩
theorem evv_set {i : Nat} {Dd : EndsD} (h : EvV te ρ d) (k : Dd.nx (ρ.set i (some d))) : dSet i te Dd ρ := h _ ⟨d, ρ, rfl, k⟩
theorem evv_ret {Dd : EndsD} (h : EvV te ρ d) (k : Dd.rt d ρ) : dRet te Dd ρ := h _ ⟨d, ρ, rfl, k⟩
theorem ev_var {i : Nat} (h : ρ.getD i none = some d) : Ev (dVar i) ρ d := fun Q q => ⟨d, h, q _ h⟩
theorem ev_c : Ev (dC d) ρ d := fun Q q => q _ rfl
theorem ev_bin (ha : Ev ta ρ a) (hb : Ev tb ρ b) (h : f a b = some d) : Ev (dBin f ta tb) ρ d := fun Q q => ha _ fun x hx => hb _ fun y hy => ⟨a, hx, b, hy, d, h, q _ rfl⟩
theorem ev_un {f : D → Option D} (ha : Ev ta ρ a) (h : f a = some d) : Ev (dUn f ta) ρ d := fun Q q => ha _ fun x hx => ⟨a, hx, d, h, q _ rfl⟩
theorem ev_call1 {f : List D → Option D} (ha : Ev ta ρ a) (h : f [a] = some d) : Ev (dCall f (dCons ta dNil)) ρ d := fun Q q => ha _ fun x hx => ⟨[a], by show (match x.get ρ, getAll ρ [] with | some d, some ds => some (d :: ds) | _, _ => none) = _; rw [hx]; rfl, d, h, q _ rfl⟩
theorem set_same {i : Nat} (h : ρ.getD i none = some d) : ρ.set i (some d) = ρ := by
  refine List.ext_getElem? fun k => ?_
  by_cases e : k = i
  · subst e
    have h2 := getD_some h
    rw [List.getElem?_set_self (List.getElem?_eq_some_iff.mp h2).1, h2]
  · rw [List.getElem?_set_ne (Ne.symm e)]
theorem take_fz {x : Opd} (hx : x.get ρ = some d) (hd : d.fz = d) : takeO x ρ = some (d, ρ) := by
  cases x with
  | val d' => cases hx; rfl
  | slot i =>
    have hx : ρ.getD i none = some d := hx
    show (ρ.getD i none).map (fun d => (d.fz, ρ.set i (some d.fz))) = _
    rw [hx]
    show some (d.fz, ρ.set i (some d.fz)) = _
    rw [hd, set_same hx]
theorem fz_fz' {x : Opd} (hx : x.get ρ = some d) (hd : d.fz = d) : fzO x ρ = some (d, ρ) := by
  cases x with
  | val d' => cases hx; show some (d.fz, ρ) = _; rw [hd]
  | slot i =>
    have hx : ρ.getD i none = some d := hx
    show (ρ.getD i none).map (fun d => (d.fz, ρ.set i (some d.fz))) = _
    rw [hx]
    show some (d.fz, ρ.set i (some d.fz)) = _
    rw [hd, set_same hx]
theorem ev_set {i : Nat} {Dd : EndsD} (h : Ev te ρ d) (hd : d.fz = d) (k : Dd.nx (ρ.set i (some d))) : dSet i te Dd ρ := h _ fun x hx => ⟨d, ρ, take_fz hx hd, k⟩
theorem ev_ret {Dd : EndsD} (h : Ev te ρ d) (k : ∀ x, x.get ρ = some d → ∃ ρ2, giveO x ρ = some (d, ρ2) ∧ Dd.rt d ρ2) : dRet te Dd ρ := h _ fun x hx => let ⟨ρ2, e, r⟩ := k x hx; ⟨d, ρ2, e, r⟩
/-- a return that asks the value alone -/
theorem ev_retP {Dd : EndsD} (h : Ev te ρ d) (k : ∀ ρ2, Dd.rt d ρ2) : dRet te Dd ρ := ev_ret h fun x hx => by
  cases x with
  | val d' => cases hx; exact ⟨ρ, rfl, k _⟩
  | slot i =>
    have hx : ρ.getD i none = some d := hx
    refine ⟨ρ.set i none, ?_, k _⟩
    show (ρ.getD i none).map (fun d => (d, ρ.set i none)) = _
    rw [hx]; rfl
end
/-- items -/
def Ez (t : TDZ) (ρ : Env) (ds : List D) : Prop := ∀ Q : List D → Env → Prop, Q ds ρ → t ρ Q
section
variable {ρ : Env} {ta tb te : TDE} {t : TDZ} {a b d : D} {ds : List D} {i j : Int}
theorem io_take {n k : Nat} {F : D → List D → (D → D → Prop) → Prop} {Q : Opd → Env → Prop} {d0 : D} (hi : ρ.getD n none = some d0) (h : Ez t ρ ds) (hl : ds.length + 1 = k) (q : F d0 ds fun d d0' => Q (.val d) (ρ.set n (some d0'))) : dCallI n k F t ρ Q := ⟨⟨d0, hi⟩, h _ ⟨hl, d0, hi, q⟩⟩
theorem ez_nil : Ez zNil ρ [] := fun Q q => q
theorem ez_fz (h : Ev te ρ d) (hr : Ez t ρ ds) (hd : d.fz = d := by rfl) : Ez (zFz te t) ρ (d :: ds) := fun Q q => h _ fun x hx => ⟨d, ρ, fz_fz' hx hd, hr _ q⟩
theorem ez_take (h : Ev te ρ d) (hr : Ez t ρ ds) (hd : d.fz = d := by rfl) : Ez (zTake te t) ρ (d :: ds) := fun Q q => h _ fun x hx => ⟨d, ρ, take_fz hx hd, hr _ q⟩
theorem ev_lst (h : Ez t ρ ds) (hl : ds.length ≤ sizeLine := by decide) : EvV (dLstE t) ρ (.lst true ds) := fun Q q => h _ ⟨hl, q⟩
theorem ev_tup (h : Ez t ρ ds) (hl : ds.length ≤ sizeLine := by decide) : EvV (dTupE t) ρ (.tup ds) := fun Q q => h _ ⟨hl, q⟩
theorem ev_add (ha : Ev ta ρ (.int i)) (hb : Ev tb ρ (.int j)) : Ev (dBin addD ta tb) ρ (.int (i + j)) := ev_bin ha hb rfl
theorem ev_sub (ha : Ev ta ρ (.int i)) (hb : Ev tb ρ (.int j)) : Ev (dBin subD ta tb) ρ (.int (i - j)) := ev_bin ha hb rfl
theorem ev_mod (ha : Ev ta ρ (.int i)) (hb : Ev tb ρ (.int j)) (h : 0 < j) : Ev (dBin modD ta tb) ρ (.int (i % j)) := ev_bin ha hb (if_pos h)
theorem ev_fdiv (ha : Ev ta ρ (.int i)) (hb : Ev tb ρ (.int j)) (h : 0 < j ∧ j < 1073741824) : Ev (dBin fdivD ta tb) ρ (.int (i / j)) := ev_bin ha hb (if_pos h)
theorem ev_mul (ha : Ev ta ρ (.int i)) (hb : Ev tb ρ (.int j)) (h : (-(2 ^ 64) < i ∧ i < 2 ^ 64) ∨ (-(2 ^ 64) < j ∧ j < 2 ^ 64)) : Ev (dBin mulD ta tb) ρ (.int (i * j)) := ev_bin ha hb (if_pos h)
theorem ev_pow (ha : Ev ta ρ (.int i)) (hb : Ev tb ρ (.int j)) (h : 0 ≤ j ∧ j ≤ 1000000 ∧ i.natAbs < 2 ^ 64) : Ev (dBin powD ta tb) ρ (.int (i ^ j.toNat)) := ev_bin ha hb (if_pos h)
theorem ev_lt (ha : Ev ta ρ (.int i)) (hb : Ev tb ρ (.int j)) : Ev (dBin ltD ta tb) ρ (.bl (decide (i < j))) := ev_bin ha hb rfl
theorem ev_le (ha : Ev ta ρ (.int i)) (hb : Ev tb ρ (.int j)) : Ev (dBin leD ta tb) ρ (.bl (decide (i ≤ j))) := ev_bin ha hb rfl
theorem ev_gt (ha : Ev ta ρ (.int i)) (hb : Ev tb ρ (.int j)) : Ev (dBin gtD ta tb) ρ (.bl (decide (j < i))) := ev_bin ha hb rfl
theorem ev_ge (ha : Ev ta ρ (.int i)) (hb : Ev tb ρ (.int j)) : Ev (dBin geD ta tb) ρ (.bl (decide (j ≤ i))) := ev_bin ha hb rfl
theorem eq_i (i j : Int) : eqD (.int i) (.int j) = some (.bl (decide (i = j))) := by
  show some (D.bl (PyData.eqv (.int i) (.int j))) = _
  congr 2
theorem ne_i (i j : Int) : neD (.int i) (.int j) = some (.bl (!decide (i = j))) := by
  show some (D.bl (!PyData.eqv (.int i) (.int j))) = _
  congr 3
theorem ev_eq (ha : Ev ta ρ (.int i)) (hb : Ev tb ρ (.int j)) : Ev (dBin eqD ta tb) ρ (.bl (decide (i = j))) := ev_bin ha hb (eq_i i j)
theorem ev_ne (ha : Ev ta ρ (.int i)) (hb : Ev tb ρ (.int j)) : Ev (dBin neD ta tb) ρ (.bl (!decide (i = j))) := ev_bin ha hb (ne_i i j)
theorem ev_ixl {o : Bool} (ha : Ev ta ρ (.lst o ds)) (hb : Ev tb ρ (.int i)) (h : atI ds i = some d) (hd : d.isFz = true := by rfl) : Ev (dBin ixD ta tb) ρ d := ev_bin ha hb (by
  show (atI ds i).bind (fun d => if d.isFz = true then some d else none) = _
  rw [h]; exact if_pos hd)
theorem ev_ixt (ha : Ev ta ρ (.tup ds)) (hb : Ev tb ρ (.int i)) (h : atI ds i = some d) (hd : d.isFz = true := by rfl) : Ev (dBin ixD ta tb) ρ d := ev_bin ha hb (by
  show (atI ds i).bind (fun d => if d.isFz = true then some d else none) = _
  rw [h]; exact if_pos hd)
theorem ev_lenL {o : Bool} (ha : Ev ta ρ (.lst o ds)) : Ev (dCall lenD (dCons ta dNil)) ρ (.int ds.length) := ev_call1 ha rfl
theorem ev_lenT (ha : Ev ta ρ (.tup ds)) : Ev (dCall lenD (dCons ta dNil)) ρ (.int ds.length) := ev_call1 ha rfl
theorem ev_catL {o o' : Bool} {es : List D} (ha : Ev ta ρ (.lst o ds)) (hb : Ev tb ρ (.lst o' es)) (h : ds.length + es.length ≤ sizeLine ∧ D.isFzs ds = true ∧ D.isFzs es = true) : EvV (dBin addD ta tb) ρ (.lst true (ds ++ es)) := evv_bin ha hb (if_pos h)
theorem ev_catT {es : List D} (ha : Ev ta ρ (.tup ds)) (hb : Ev tb ρ (.tup es)) (h : ds.length + es.length ≤ sizeLine ∧ D.isFzs ds = true ∧ D.isFzs es = true) : EvV (dBin addD ta tb) ρ (.tup (ds ++ es)) := evv_bin ha hb (if_pos h)
theorem ret_var {i : Nat} {Dd : EndsD} (h : ρ.getD i none = some d) (k : Dd.rt d (ρ.set i none)) : dRet (dVar i) Dd ρ := ⟨d, h, d, ρ.set i none, by
  show (ρ.getD i none).map (fun d => (d, ρ.set i none)) = _
  rw [h]; rfl, k⟩
theorem ev_if {c : Bool} {A B : TDS} {Dd : EndsD} (h : Ev te ρ (.bl c)) (k : if c = true then A Dd ρ else B Dd ρ) : dIfS (dTst te) A B Dd ρ := h _ fun x hx => ⟨c, hx, k⟩
/-- x[i] = e of a list in the slot n -/
theorem ev_store {n : Nat} {ti : TDE} {Dd : EndsD} {k : Nat} (h : Ev te ρ d) (hd : d.fz = d) (hi : Ev ti ρ (.int i)) (hn : ρ.getD n none = some (.lst true ds)) (hk : ixN ds.length i = some k) (q : Dd.nx (ρ.set n (some (.lst true (ds.set k d))))) : dStore n te ti Dd ρ := by
  refine h _ fun x hx => ⟨d, ρ, take_fz hx hd, ⟨_, hn⟩, hi _ fun y hy => ⟨_, hy, _, hn, _, ?_, q⟩⟩
  show (ixN ds.length i).map (fun n => D.lst true (ds.set n d)) = _
  rw [hk]; rfl
/-- a call of a pure def -/
theorem ev_callU {n : Nat} {F : List D → (D → Prop) → Prop} {Q : Opd → Env → Prop} (h : Ez t ρ ds) (hl : ds.length = n) (k : F ds fun d => Q (.val d) ρ) : dCallU n F t ρ Q := h _ ⟨hl, k⟩
end
theorem mul_bd {x y A B : Int} (hx : 0 ≤ x) (hA : x ≤ A) (hy : 0 ≤ y) (hB : y ≤ B) : 0 ≤ x * y ∧ x * y ≤ A * B :=
  ⟨Int.mul_nonneg hx hy, Int.mul_le_mul hA hB hy (by omega)⟩
/-- spread gives some int -/
theorem spread_ok {c a : Int} {Q : D → Prop} (h0 : 0 ≤ a) (h1 : a ≤ 2 ^ 30) (h : ∀ r, Q (.int r)) : F_spread [.int c, .int a] Q := by
  show rd_spread _ [some (.int c), some (.int a), none, none, none, none]
  unfold rd_spread
  refine ev_if (ev_ge (ev_var rfl) (ev_pow (i := 10) (j := 18) ev_c ev_c (by decide))) ?_
  split
  · exact ev_retP (ev_var rfl) fun _ => h _
  obtain ⟨ps, hps, hp, e⟩ : ∃ ps : List Int, ps.length = 13 ∧ (∀ p ∈ ps, 2147483000 < p ∧ p < 2147483648) ∧ ps = [2147483629, 2147483587, 2147483579, 2147483563, 2147483549, 2147483543, 2147483497, 2147483489, 2147483477, 2147483423, 2147483399, 2147483353, 2147483323] := ⟨_, by decide, by decide, rfl⟩
  have hat : ∀ i : Int, ∃ p, atI (ps.map D.int) (i % 13) = some (.int p) ∧ 2147483000 < p ∧ p < 2147483648 := fun i => by
    obtain ⟨x, hx, ex⟩ := atI_mem (xs := ps.map D.int) (i := i % 13) (by omega) (by rw [List.length_map, hps]; omega)
    obtain ⟨p, hp', rfl⟩ := List.mem_map.mp hx
    exact ⟨p, ex, hp p hp'⟩
  refine evv_set (ev_lst (ez_fz ev_c (ez_fz ev_c (ez_fz ev_c (ez_fz ev_c (ez_fz ev_c (ez_fz ev_c (ez_fz ev_c (ez_fz ev_c ez_nil))))))))) ?_
  refine evv_set (ev_catL (ev_var rfl) (ev_lst (ez_fz ev_c (ez_fz ev_c (ez_fz ev_c (ez_fz ev_c (ez_fz ev_c ez_nil)))))).ev (by decide)) ?_
  have e2 : (D.lst true ([D.int 2147483629, .int 2147483587, .int 2147483579, .int 2147483563, .int 2147483549, .int 2147483543, .int 2147483497, .int 2147483489] ++ [.int 2147483477, .int 2147483423, .int 2147483399, .int 2147483353, .int 2147483323])) = .lst true (ps.map D.int) := by rw [e]; rfl
  rw [e2]
  obtain ⟨p1, g1, l1, u1⟩ := hat a
  obtain ⟨p2, g2, l2, u2⟩ := hat (a + 5)
  obtain ⟨p3, g3, l3, u3⟩ := hat (a + 7)
  have b1 := mul_bd (x := c % 1000000007) (A := 1000000006) (y := 2 * a + 69069) (B := 2147552717) (by omega) (by omega) (by omega) (by omega)
  refine ev_set (ev_mod (ev_pow (ev_add (ev_add (ev_mul (ev_mod (ev_var rfl) ev_c (by decide)) (ev_add (ev_mul ev_c (ev_var rfl) (.inl (by decide))) ev_c) (.inr (by omega))) (ev_mul (ev_var rfl) ev_c (.inr (by decide)))) ev_c) ev_c ⟨by decide, by decide, by omega⟩) (ev_ixl (ev_var rfl) (ev_mod (ev_var rfl) ev_c (by decide)) g1) (by omega)) rfl ?_
  generalize hx : (c % 1000000007 * (2 * a + 69069) + a * 40503 + 977) ^ Int.toNat 3 % p1 = x1
  have x1b : 0 ≤ x1 ∧ x1 < p1 := by
    rw [← hx]
    exact ⟨Int.emod_nonneg _ (by omega), Int.emod_lt_of_pos _ (by omega)⟩
  have b2 := mul_bd (x := x1) (A := 2147483648) (y := a + 3) (B := 1073741827) (by omega) (by omega) (by omega) (by omega)
  refine ev_set (ev_mod (ev_pow (ev_add (ev_add (ev_mul (ev_var rfl) (ev_add (ev_var rfl) ev_c) (.inr (by omega))) (ev_mod (ev_var rfl) ev_c (by decide))) ev_c) ev_c ⟨by decide, by decide, by omega⟩) (ev_ixl (ev_var rfl) (ev_mod (ev_add (ev_var rfl) ev_c) ev_c (by decide)) g2) (by omega)) rfl ?_
  generalize hy : (x1 * (a + 3) + c % 65537 + 5) ^ Int.toNat 5 % p2 = x2
  have x2b : 0 ≤ x2 ∧ x2 < p2 := by
    rw [← hy]
    exact ⟨Int.emod_nonneg _ (by omega), Int.emod_lt_of_pos _ (by omega)⟩
  refine ev_set (ev_mod (ev_pow (ev_add (ev_add (ev_var rfl) (ev_mod (ev_var rfl) ev_c (by decide))) (ev_var rfl)) ev_c ⟨by decide, by decide, by omega⟩) (ev_ixl (ev_var rfl) (ev_mod (ev_add (ev_var rfl) ev_c) ev_c (by decide)) g3) (by omega)) rfl ?_
  exact ev_retP (ev_add (ev_mul (ev_add (ev_mul (ev_var rfl) ev_c (.inr (by decide))) (ev_var rfl)) ev_c (.inr (by decide))) (ev_var rfl)) fun _ => h _
end KW
set_option maxHeartbeats 1000000
/-! KS2: the drawing defs: what may be drawn. -/
namespace KW
open PySem PySem.Spec L2
open PyProof.Rows hiding St

theorem atI_int {cs : List Int} {i : Int} (h0 : 0 ≤ i) (h1 : i < cs.length) : ∃ c, atI (cs.map D.int) i = some (.int c) := by
  obtain ⟨x, hx, e⟩ := atI_mem (xs := cs.map D.int) h0 (by rw [List.length_map]; exact h1)
  obtain ⟨c, _, rfl⟩ := List.mem_map.mp hx
  exact ⟨c, e⟩
theorem big {a : Int} (h : 0 ≤ a) : 0 < 10 ^ Int.toNat 17 + a := by
  have : (0 : Int) < 10 ^ Int.toNat 17 := by decide
  omega
/-- take: any number below the wished one -/
theorem take_ok {n : Nat} {d : D} {m : Int} {Q : D → D → Prop} (hp : PenOk n d) (hn : n ≤ 2 ^ 30) (h0 : 0 < m) (h1 : m < 2 ^ 30) (h : ∀ r d', 0 ≤ r → r < m → PenOk (n + 1) d' → Q (.int r) d') : F_take d [.int m] Q := by
  obtain ⟨cs, a, l, rfl, ha0, ha1⟩ := hp
  show rd_take _ [some (.lst true [.lst false (cs.map .int), .int a, .int l]), some (.int m), none, none, none]
  unfold rd_take
  have fin : ∀ (l a : Int) (x y : Option D), 0 ≤ a → a ≤ (n + 1 : Nat) → dSeq (dSet 4 (dBin modD (dBin ixD (dVar 0) (dC (.int 2))) (dVar 1))) (dSeq (dStore 0 (dBin fdivD (dBin ixD (dVar 0) (dC (.int 2))) (dVar 1)) (dC (.int 2))) (dRet (dVar 4)))
      { nx := fun ρ => ∃ d0', ρ.getD 0 none = some d0' ∧ Q .non d0', rt := fun d ρ => ∃ d0', ρ.getD 0 none = some d0' ∧ Q d d0' } [some (.lst true [.lst false (cs.map .int), .int a, .int l]), some (.int m), x, y, none] := by
    intro l a x y ha0 ha1
    refine ev_set (ev_mod (ev_ixl (ev_var rfl) ev_c (atI3_2 _ _ _)) (ev_var rfl) h0) rfl ?_
    refine ev_store (ev_fdiv (ev_ixl (ev_var rfl) ev_c (atI3_2 _ _ _)) (ev_var rfl) ⟨h0, by omega⟩) rfl ev_c rfl ixN3_2 ?_
    exact ret_var rfl ⟨_, rfl, h _ _ (Int.emod_nonneg _ (by omega)) (Int.emod_lt_of_pos _ h0) ⟨cs, a, _, rfl, ha0, ha1⟩⟩
  refine ev_if (ev_lt (ev_ixl (ev_var rfl) ev_c (atI3_2 _ _ _)) (ev_var rfl)) ?_
  split
  · refine ev_set (ev_ixl (ev_var rfl) ev_c (atI3_1 _ _ _)) rfl ?_
    refine ev_set ev_c rfl ?_
    have next : ∀ c : Int, dSeq (dStore 0 (dBin addD (dVar 2) (dC (.int 1))) (dC (.int 1))) (dStore 0 (dCallU 2 F_spread (zFz (dVar 3) (zFz (dVar 2) zNil))) (dC (.int 2)))
        { nx := fun ρ' => dSeq (dSet 4 (dBin modD (dBin ixD (dVar 0) (dC (.int 2))) (dVar 1))) (dSeq (dStore 0 (dBin fdivD (dBin ixD (dVar 0) (dC (.int 2))) (dVar 1)) (dC (.int 2))) (dRet (dVar 4)))
            { nx := fun ρ => ∃ d0', ρ.getD 0 none = some d0' ∧ Q .non d0', rt := fun d ρ => ∃ d0', ρ.getD 0 none = some d0' ∧ Q d d0' } ρ', rt := fun d ρ => ∃ d0', ρ.getD 0 none = some d0' ∧ Q d d0' }
        [some (.lst true [.lst false (cs.map .int), .int a, .int l]), some (.int m), some (.int a), some (.int c), none] := by
      intro c
      refine ev_store (ev_add (ev_var rfl) ev_c) rfl ev_c rfl ixN3_1 ?_
      refine ⟨_, rfl, _, _, rfl, _, rfl, _, _, rfl, rfl, ?_⟩
      refine spread_ok ha0 (by omega) fun r => ?_
      refine ⟨_, _, rfl, ⟨_, rfl⟩, _, rfl, _, rfl, _, rfl, ?_⟩
      exact fin r (a + 1) _ _ (by omega) (by omega)
    refine ev_if (ev_lt (ev_var rfl) (ev_lenL (ev_ixl (ev_var rfl) ev_c (atI3_0 _ _ _) (by simp [D.isFz])))) ?_
    split
    · rename_i hlt
      rw [List.length_map, decide_eq_true_eq] at hlt
      obtain ⟨c, hc⟩ := atI_int ha0 hlt
      exact ev_set (ev_ixl (ev_ixl (ev_var rfl) ev_c (atI3_0 _ _ _) (by simp [D.isFz])) (ev_var rfl) hc) rfl (next c)
    · refine ev_if (ev_gt (ev_lenL (ev_ixl (ev_var rfl) ev_c (atI3_0 _ _ _) (by simp [D.isFz]))) ev_c) ?_
      split
      · rename_i hlt
        rw [List.length_map, decide_eq_true_eq] at hlt
        obtain ⟨c, hc⟩ := atI_int (cs := cs) (i := (a * 5 + 3) % ((cs.map D.int).length : Int)) (Int.emod_nonneg _ (by rw [List.length_map]; omega)) (by rw [List.length_map]; exact Int.emod_lt_of_pos _ hlt)
        exact ev_set (ev_mod (ev_ixl (ev_ixl (ev_var rfl) ev_c (atI3_0 _ _ _) (by simp [D.isFz])) (ev_mod (ev_add (ev_mul (ev_var rfl) ev_c (.inr (by decide))) ev_c) (ev_lenL (ev_ixl (ev_var rfl) ev_c (atI3_0 _ _ _) (by simp [D.isFz]))) (by rw [List.length_map]; exact hlt)) hc) (ev_add (ev_pow (i := 10) (j := 17) ev_c ev_c (by decide)) (ev_var rfl)) (big ha0)) rfl (next _)
      · exact next 0
  · exact fin l a none none ha0 (by omega)
/-- pick: any of them -/
theorem pick_ok {n : Nat} {d : D} {o : Bool} {ds : List D} {Q : D → D → Prop} (hp : PenOk n d) (hn : n ≤ 2 ^ 30) (h0 : ds ≠ []) (h1 : ds.length < 2 ^ 30) (hf : D.isFzs ds = true) (h : ∀ x d', x ∈ ds → PenOk (n + 1) d' → Q x d') : F_wpick d [.lst o ds] Q := by
  show rd_wpick _ [some d, some (.lst o ds)]
  unfold rd_wpick
  refine ⟨_, rfl, ⟨d, rfl⟩, _, rfl, _, rfl, _, rfl, _, _, rfl, rfl, _, rfl, ?_⟩
  have hl : 0 < ds.length := List.length_pos_iff.mpr h0
  refine take_ok hp hn (by show (0 : Int) < (ds.length : Int); omega) (by show (ds.length : Int) < _; omega) fun r d' r0 r1 hp' => ?_
  obtain ⟨x, hx, e⟩ := atI_mem (xs := ds) r0 r1
  have fx : x.isFz = true := by
    rw [D.isFzs_eq] at hf
    exact List.all_eq_true.mp hf x hx
  refine ⟨_, rfl, _, rfl, x, ?_, _, _, rfl, _, rfl, h x d' hx hp'⟩
  show (atI ds r).bind (fun d => if d.isFz = true then some d else none) = _
  rw [e]
  exact if_pos fx
theorem pickT_ok {n : Nat} {d : D} {ds : List D} {Q : D → D → Prop} (hp : PenOk n d) (hn : n ≤ 2 ^ 30) (h0 : ds ≠ []) (h1 : ds.length < 2 ^ 30) (hf : D.isFzs ds = true) (h : ∀ x d', x ∈ ds → PenOk (n + 1) d' → Q x d') : F_wpick d [.tup ds] Q := by
  show rd_wpick _ [some d, some (.tup ds)]
  unfold rd_wpick
  refine ⟨_, rfl, ⟨d, rfl⟩, _, rfl, _, rfl, _, rfl, _, _, rfl, rfl, _, rfl, ?_⟩
  have hl : 0 < ds.length := List.length_pos_iff.mpr h0
  refine take_ok hp hn (by show (0 : Int) < (ds.length : Int); omega) (by show (ds.length : Int) < _; omega) fun r d' r0 r1 hp' => ?_
  obtain ⟨x, hx, e⟩ := atI_mem (xs := ds) r0 r1
  have fx : x.isFz = true := by
    rw [D.isFzs_eq] at hf
    exact List.all_eq_true.mp hf x hx
  refine ⟨_, rfl, _, rfl, x, ?_, _, _, rfl, _, rfl, h x d' hx hp'⟩
  show (atI ds r).bind (fun d => if d.isFz = true then some d else none) = _
  rw [e]
  exact if_pos fx
/-- .. of a text: a sign of it -/
theorem pickS_ok {n : Nat} {d : D} {z : Str} {Q : D → D → Prop} (hp : PenOk n d) (hn : n ≤ 2 ^ 30) (h0 : 0 < z.length) (h1 : z.length ≤ sizeLine) (h : ∀ c d', c ∈ z.cps.toList → PenOk (n + 1) d' → Q (.str ⟨#[c]⟩) d') : F_wpick d [.str z] Q := by
  show rd_wpick _ [some d, some (.str z)]
  unfold rd_wpick
  refine ⟨_, rfl, ⟨d, rfl⟩, _, rfl, _, rfl, _, if_pos h1, _, _, rfl, rfl, _, rfl, ?_⟩
  have hz : (sizeLine : Int) < 2 ^ 30 := by decide
  refine take_ok hp hn (by show (0 : Int) < (z.length : Int); omega) (by show (z.length : Int) < _; omega) fun r d' r0 r1 hp' => ?_
  have r1' : r < (z.cps.toList.length : Int) := r1
  obtain ⟨c, hc, e⟩ := atI_mem (xs := z.cps.toList) r0 r1'
  refine ⟨_, rfl, _, rfl, .str ⟨#[c]⟩, ?_, _, _, rfl, _, rfl, h c d' hc hp'⟩
  show (if z.length ≤ sizeLine then (atI z.cps.toList r).map (fun c => D.str ⟨#[c]⟩) else none) = _
  rw [if_pos h1, e]; rfl
end KW
set_option maxHeartbeats 1000000
/-! KS3: effects, keys, bindings, keymaps that are drawn. -/
namespace KW
open PySem PySem.Spec L2
open PyProof.Rows hiding St

/-! ### texts, effects as trees -/
abbrev sDs (l : List Str) : List D := l.map D.str
def effD (es : List (Str × Bool)) : List (D × D) := es.map fun p => (.str p.1, .bl p.2)
@[simp] theorem isFzs_sDs (l : List Str) : D.isFzs (sDs l) = true := isFzs_map _ (fun _ => rfl) l
@[simp] theorem fzs_sDs (l : List Str) : D.fzs (sDs l) = sDs l := fzs_map _ (fun _ => rfl) l
@[simp] theorem fzk_eff (es : List (Str × Bool)) : D.fzk (effD es) = effD es := by
  rw [D.fzk_eq]; unfold effD; rw [List.map_map]; rfl
@[simp] theorem isFzk_eff (es : List (Str × Bool)) : D.isFzk (effD es) = true := by
  rw [D.isFzk_eq]; unfold effD; rw [List.all_map, List.all_eq_true]; exact fun _ _ => rfl
theorem fz_tupS (l : List Str) : (D.tup (sDs l)).fz = .tup (sDs l) := by rw [D.fz, fzs_sDs]
theorem kN_str (s : Str) : kN (.str s) = .text s := rfl
theorem setK_new {k : Str} {d : D} : ∀ {kvs : List (D × D)}, (∀ p ∈ kvs, kN p.1 ≠ .text k) → setK kvs (.str k) d = kvs ++ [(.str k, d)]
  | [], _ => rfl
  | p :: r, h => by
    show (if kN p.1 = kN (.str k) then (p.1, d) :: r else p :: setK r (.str k) d) = _
    rw [if_neg (show kN p.1 ≠ kN (.str k) from h p List.mem_cons_self), setK_new fun q hq => h q (List.mem_cons_of_mem _ hq)]
    rfl
theorem eff_new {es : List (Str × Bool)} {k : Str} {b : Bool} (h : k ∉ es.map (·.1)) : setK (effD es) (.str k) (.bl b) = effD (es ++ [(k, b)]) := by
  rw [setK_new fun p hp => ?_]
  · simp [effD]
  · obtain ⟨q, hq, rfl⟩ := List.mem_map.mp hp
    intro z
    rw [kN_str] at z
    exact h (List.mem_map.mpr ⟨q, hq, NestedKey.text.inj z⟩)
/-- an effect, a condition for some flags, as they are drawn -/
theorem weffect_ok {n : Nat} {d : D} {fl : List Str} {Q : D → D → Prop} (hp : PenOk n d) (hn : n + fl.length ≤ 2 ^ 30) (hl : fl.length < 1000) (nd : fl.Nodup) (h : ∀ es d', (es.map (·.1)).Sublist fl → PenOk (n + fl.length) d' → Q (.dct true (effD es)) d') : F_weffect d [.tup (sDs fl)] Q := by
  show rd_weffect _ [some d, some (.tup (sDs fl)), none, none, none]
  unfold rd_weffect
  refine evv_set evv_c ?_
  refine ⟨_, rfl, _, _, rfl, _, rfl, ?_⟩
  rw [show D.fzs (sDs fl) = sDs fl from fzs_sDs fl]
  refine for_ind (fun ds ρ => ∃ done rest es d' x y, fl = done ++ rest ∧ ds = sDs rest ∧ (es.map (·.1)).Sublist done ∧ PenOk (n + done.length) d' ∧ ρ = [some d', some (.tup (sDs fl)), some (.dct true (effD es)), x, y]) (fun ρ hI => ?_) (fun R f ds ρ hI k => ?_) _ _ ⟨[], fl, [], d, none, none, rfl, rfl, .slnil, by simpa using hp, ?_⟩
  · obtain ⟨done, rest, es, d', x, y, e1, e2, hs, hp', rfl⟩ := hI
    obtain rfl : rest = [] := by simpa using e2.symm
    rw [List.append_nil] at e1
    subst e1
    exact ret_var rfl ⟨_, rfl, h _ _ hs hp'⟩
  · obtain ⟨done, rest, es, d', x, y, e1, e2, hs, hp', rfl⟩ := hI
    cases rest with
    | nil => cases e2
    | cons s rest =>
      obtain ⟨rfl, rfl⟩ : f = .str s ∧ ds = sDs rest := by simpa using e2
      have hlen : fl.length = done.length + (rest.length + 1) := by rw [e1]; simp
      refine ⟨⟨d', rfl⟩, _, _, rfl, rfl, d', rfl, take_ok hp' (by omega) (by decide) (by decide) fun r d2 r0 r1 hp2 => ⟨_, _, rfl, ?_⟩⟩
      refine ev_if (ev_lt (ev_var rfl) ev_c) ?_
      split
      · refine ev_eq (i := r) (ev_var rfl) ev_c _ fun z hz => ⟨.bl (decide (r = 0)), _, take_fz hz rfl, ⟨_, rfl⟩, _, rfl, _, rfl, _, rfl, .dct true (effD (es ++ [(s, decide (r = 0))])), ?_, ?_⟩
        · have hns : s ∉ es.map (·.1) := fun z => by
            have h1 := hs.subset z
            have h2 : (done ++ s :: rest).Nodup := by rw [← e1]; exact nd
            exact (List.nodup_append.mp h2).2.2 s h1 s List.mem_cons_self rfl
          have hle : (effD es).length < sizeLine := by
            have h1 := hs.length_le
            rw [List.length_map] at h1
            have : (1000 : Nat) < sizeLine := by decide
            rw [effD, List.length_map]; omega
          show (if (NestedKey.text s).depth ≤ 8 ∧ (effD es).length < sizeLine then some (D.dct true (setK (effD es) (.str s) (.bl (decide (r = 0))))) else none) = _
          rw [if_pos ⟨by simp [NestedKey.depth], hle⟩, eff_new hns]
        · refine k _ ⟨done ++ [s], rest, es ++ [(s, decide (r = 0))], d2, _, _, by simp [e1], rfl, ?_, ?_, rfl⟩
          · rw [List.map_append]; exact hs.append (List.Sublist.refl _)
          · rw [List.length_append]; exact hp2
      · refine k _ ⟨done ++ [s], rest, es, d2, _, _, by simp [e1], rfl, hs.trans (List.sublist_append_left _ _), ?_, rfl⟩
        rw [List.length_append]; exact hp2
  · simp [effD, List.set, fz_tupS]
/-! ### keys -/
theorem isFzs_ints' (l : List Int) : D.isFzs (l.map D.int) = true := isFzs_map _ (fun _ => rfl) l
abbrev sg (c : Nat) : Str := ⟨#[c]⟩
theorem strsD_map {α : Type} (f : α → Str) : ∀ l : List α, strsD (l.map fun a => .str (f a)) = some (l.map f)
  | [] => rfl
  | a :: l => by
    show (strsD (l.map fun a => .str (f a))).map (f a :: ·) = _
    rw [strsD_map f l]; rfl
theorem join_sg (cs : List Nat) : Txt.join "" (cs.map sg) = ⟨cs.toArray⟩ := by
  have h : ∀ cs : List Nat, TL.joinL [] (cs.map fun c => [c]) = cs := fun cs => by
    induction cs with
    | nil => rfl
    | cons c cs ih =>
      cases cs with
      | nil => rfl
      | cons e cs =>
        show [c] ++ ([] ++ TL.joinL [] ((e :: cs).map fun c => [c])) = _
        rw [ih]; rfl
  have e := TL.tl_join "" (cs.map sg)
  rw [show TL.tl ("" : Str) = [] by decide +kernel, List.map_map, show (TL.tl ∘ sg) = fun c => [c] from rfl, h] at e
  rw [TL.join_eq]
  have e2 : (Str.join "" (cs.map sg)).cps.toList = cs := e
  cases q : Str.join "" (cs.map sg) with
  | mk a => rw [q] at e2; subst e2; simp
theorem len_sg (cs : List Nat) : ((cs.map sg).map (·.length)).sum + (cs.map sg).length * ("" : Str).length = cs.length := by
  rw [show ("" : Str).length = 0 by decide +kernel, Nat.mul_zero, Nat.add_zero]
  induction cs with
  | nil => rfl
  | cons c cs ih =>
    simp only [List.map_cons, List.sum_cons, List.length_cons, ih]
    show 1 + cs.length = _
    omega
/-- one to four signs out of some -/
theorem wkeys_ok {n : Nat} {d : D} {ls : Str} {Q : D → D → Prop} (hp : PenOk n d) (hn : n + 5 ≤ 2 ^ 30) (h0 : 0 < ls.length) (h1 : ls.length ≤ sizeLine) (h : ∀ s d', 1 ≤ s.length → s.length ≤ 4 → (∀ c ∈ s.cps.toList, c ∈ ls.cps.toList) → PenOk (n + 5) d' → Q (.str s) d') : F_wkeys d [.str ls] Q := by
  show rd_wkeys _ [some d, some (.str ls), none, none]
  unfold rd_wkeys
  have key : ∀ (k : Int) (d1 : D), 1 ≤ k → k ≤ 4 → PenOk (n + 1) d1 → dRet (dMeth .str joinD (dC (.str "")) (dCons (dComp (dRng1 (zFz (dVar 2) zNil)) (gN 3) dYes (dCallI 0 2 F_wpick (zFz (dVar 1) zNil)) [3]) dNil))
      { nx := fun ρ => ∃ d0', ρ.getD 0 none = some d0' ∧ Q .non d0', rt := fun d ρ => ∃ d0', ρ.getD 0 none = some d0' ∧ Q d d0' } [some d1, some (.str ls), some (.int k), none] := by
    intro k d1 k0 k1 hp1
    refine ⟨⟨_, rfl, rfl⟩, _, rfl, _, _, rfl, k, rfl, by omega, by omega, ?_⟩
    refine comp_ind (fun ds acc ρ => ∃ (cs : List Nat) (d' : D), acc = cs.map (fun c => .str (sg c)) ∧ (∀ c ∈ cs, c ∈ ls.cps.toList) ∧ cs.length + ds.length = k.toNat ∧ PenOk (n + 1 + cs.length) d' ∧ ∃ x, ρ = [some d', some (.str ls), some (.int k), x]) (fun acc ρ hI => ?_) (fun R f ds acc ρ hI kk => ?_) _ _ _ ⟨[], d1, rfl, by simp, by simp, hp1, none, rfl⟩
    · obtain ⟨cs, d', rfl, hc, hl, hp', x, rfl⟩ := hI
      rw [List.length_nil, Nat.add_zero] at hl
      refine ⟨_, rfl, _, rfl, .str ⟨cs.toArray⟩, ?_, _, _, rfl, _, rfl, h _ d' ?_ ?_ ?_ (hp'.mono (by omega))⟩
      · show (strsD (cs.map fun c => .str (sg c))).bind (fun ys => if (ys.map (·.length)).sum + ys.length * ("" : Str).length ≤ 16777216 then some (D.str (Txt.join "" ys)) else none) = _
        rw [strsD_map]
        show (if ((cs.map sg).map (·.length)).sum + (cs.map sg).length * ("" : Str).length ≤ 16777216 then some (D.str (Txt.join "" (cs.map sg))) else none) = _
        rw [len_sg, if_pos (by omega), join_sg]
      · show 1 ≤ cs.toArray.size
        simp; omega
      · show cs.toArray.size ≤ 4
        simp; omega
      · intro c hm
        exact hc c (by simpa using hm)
    · obtain ⟨cs, d', rfl, hc, hl, hp', x, rfl⟩ := hI
      rw [List.length_cons] at hl
      refine ⟨⟨d', rfl⟩, _, rfl, _, _, rfl, rfl, d', rfl, pickS_ok hp' (by omega) h0 h1 fun c d2 hm hp2 => ⟨_, _, rfl, ?_, ?_⟩⟩
      · rw [List.length_map]
        have : 5 < sizeLine := by decide
        omega
      · refine kk _ _ ⟨cs ++ [c], d2, by simp, ?_, by simp; omega, by rw [List.length_append]; exact hp2, _, rfl⟩
        intro e he
        rcases List.mem_append.mp he with z | z
        · exact hc e z
        · rw [List.mem_singleton.mp z]; exact hm
  refine ⟨⟨d, rfl⟩, _, _, rfl, _, _, rfl, _, _, rfl, _, _, rfl, _, _, rfl, _, _, rfl, by decide, _, _, rfl, rfl, d, rfl, pick_ok (ds := [1, 2, 2, 3, 3, 4].map D.int) hp (by omega) (by decide) (by decide) (by decide) fun x d1 hx hp1 => ⟨_, _, rfl, ?_⟩⟩
  obtain ⟨k, hk, rfl⟩ := List.mem_map.mp hx
  have kb : ∀ k ∈ [(1 : Int), 2, 2, 3, 3, 4], 1 ≤ k ∧ k ≤ 4 := by decide
  exact key k d1 (kb k hk).1 (kb k hk).2 hp1
end KW
set_option maxHeartbeats 1000000
/-! KS4: bindings, keymaps, states that are drawn. -/
namespace KW
open PySem PySem.Spec L2
open PyProof.Rows hiding St

/-! ### flat lists of texts -/
theorem plains_sDs : ∀ l : List Str, D.plains (sDs l) = true
  | [] => rfl
  | s :: l => by
    show (true && D.plains (sDs l)) = true
    rw [plains_sDs l]; rfl
theorem lay_sDs : ∀ {l : List Str}, (∀ s ∈ l, PyData.strOk s = true) → PyData.canLayAll0 (D.pys (sDs l)) = true
  | [], _ => rfl
  | s :: l, h => by
    show (PyData.strOk s && PyData.canLayAll0 (D.pys (sDs l))) = true
    rw [h s List.mem_cons_self, lay_sDs fun t ht => h t (List.mem_cons_of_mem _ ht)]; rfl
theorem depth_sDs : ∀ l : List Str, PyData.depthAll (D.pys (sDs l)) = 0
  | [] => rfl
  | s :: l => by
    show max 0 (PyData.depthAll (D.pys (sDs l))) = 0
    rw [depth_sDs l]; rfl
theorem flat_lstS {o : Bool} {l : List Str} (h : ∀ s ∈ l, PyData.strOk s = true) : D.flatEq (.lst o (sDs l)) = true := by
  unfold D.flatEq
  rw [D.plain, plains_sDs, D.py, PyData.canLay0, lay_sDs h, PyData.depth, depth_sDs]; decide
theorem eq_nilS {o o' : Bool} {l : List Str} (h : ∀ s ∈ l, PyData.strOk s = true) : eqD (.lst o (sDs l)) (.lst o' []) = some (.bl l.isEmpty) := by
  unfold eqD
  rw [flat_lstS h, show D.flatEq (.lst o' []) = true from rfl]
  simp only [Bool.and_self, if_true]
  cases l <;> rfl
/-! ### keymaps -/
structure Bnd where
  keys : Str
  cond : List (Str × Bool)
  cmd : Option Str
def cmdD : Option Str → D
  | none => .non
  | some s => .str s
def Bnd.toD (b : Bnd) : D := .tup [.str b.keys, .dct false (effD b.cond), cmdD b.cmd]
structure KM where
  flags : List Str
  outside : List Str
  cmds : List (Str × List (Str × Bool))
  layers : List (List Bnd)
  wait : Int
def cmdsD (cs : List (Str × List (Str × Bool))) : List (D × D) := cs.map fun p => (.str p.1, .dct false (effD p.2))
def layD (l : List Bnd) : D := .tup (l.map Bnd.toD)
def KM.toD (k : KM) : D := .tup [.tup (sDs k.flags), .tup (sDs k.outside), .dct false (cmdsD k.cmds), .tup (k.layers.map layD), .int k.wait]
theorem cmdD_fz : ∀ c, (cmdD c).fz = cmdD c
  | none => rfl
  | some _ => rfl
theorem Bnd.fz (b : Bnd) : b.toD.fz = b.toD := by
  unfold Bnd.toD
  rw [D.fz, D.fzs, D.fzs, D.fzs, D.fzs, cmdD_fz, D.fz, D.fz, fzk_eff]
theorem layD_fz (l : List Bnd) : (layD l).fz = layD l := by
  unfold layD
  rw [D.fz, fzs_map _ Bnd.fz]
theorem cmdsD_fz (cs : List (Str × List (Str × Bool))) : D.fzk (cmdsD cs) = cmdsD cs := by
  unfold cmdsD
  rw [D.fzk_eq, List.map_map]
  refine List.map_congr_left fun p _ => ?_
  show ((D.str p.1, (D.dct false (effD p.2)).fz) : D × D) = _
  rw [D.fz, fzk_eff]
theorem KM.fz (k : KM) : k.toD.fz = k.toD := by
  unfold KM.toD
  simp only [D.fz, D.fzs, fzs_sDs, cmdsD_fz, fzs_map _ layD_fz]
theorem fz_isFz {d : D} (h : d.fz = d) : d.isFz = true := by rw [← h]; exact D.isFz_fz d
/-- a binding -/
theorem wbinding_ok {n : Nat} {d : D} {fl nm : List Str} {o : Bool} {ls : Str} {Q : D → D → Prop} (hp : PenOk n d) (hn : n + 1000 ≤ 2 ^ 30) (hl : fl.length ≤ 3) (nd : fl.Nodup) (hnm : nm.length ≤ 100) (hso : ∀ s ∈ nm, PyData.strOk s = true) (h0 : 0 < ls.length) (h1 : ls.length ≤ sizeLine)
    (h : ∀ (b : Bnd) d', 1 ≤ b.keys.length → b.keys.length ≤ 4 → (∀ c ∈ b.keys.cps.toList, c ∈ ls.cps.toList) → (b.cond.map (·.1)).Sublist fl → (∀ x, b.cmd = some x → x ∈ nm) → PenOk (n + 10) d' → Q b.toD d') : F_wbinding d [.tup (sDs fl), .lst o (sDs nm), .str ls] Q := by
  show rd_wbinding _ [some d, some (.tup (sDs fl)), some (.lst o (sDs nm)), some (.str ls), none, none]
  unfold rd_wbinding
  dsimp only [dSeq, dPar, zTake]
  refine io_take (d0 := d) rfl (ez_fz (ev_var rfl) ez_nil) rfl ?_
  refine wkeys_ok hp (by omega) h0 h1 fun ks d1 k0 k1 kc hp1 => ⟨_, _, rfl, ?_⟩
  refine io_take (d0 := d1) rfl (ez_fz (ev_var rfl) ez_nil (fz_tupS fl)) rfl ?_
  refine weffect_ok hp1 (by omega) (by omega) nd fun es d2 hes hp2 => ⟨_, _, rfl, _, _, rfl, ?_⟩
  have fin : ∀ (c : Option Str) (d' : D) (x : Option D), (∀ z, c = some z → z ∈ nm) → PenOk (n + 10) d' → ∃ d0', ([some d', some (.tup (sDs fl)), x, some (.str ls), some (.str ks), some (.dct false (effD es))] : Env).getD 0 none = some d0' ∧ Q (Bnd.toD ⟨ks, es, c⟩) d0' := fun c d' x hc hp' => ⟨d', rfl, h ⟨ks, es, c⟩ d' k0 k1 kc hes hc hp'⟩
  have nonR : ∀ (d' : D) (x : Option D), PenOk (n + 10) d' → dRet (dTupE (zFz (dVar 4) (zFz (dVar 5) (zFz (dC .non) zNil)))) { nx := fun ρ => ∃ d0', ρ.getD 0 none = some d0' ∧ Q .non d0', rt := fun d ρ => ∃ d0', ρ.getD 0 none = some d0' ∧ Q d d0' }
      [some d', some (.tup (sDs fl)), x, some (.str ls), some (.str ks), some (.dct true (effD es))] := fun d' x hp' => by
    refine ⟨_, rfl, _, _, rfl, _, rfl, .dct false (effD es), _, ?_, _, _, rfl, by show 3 ≤ sizeLine; decide, _, _, rfl, fin none d' x (fun z e => nomatch e) hp'⟩
    show some ((D.dct true (effD es)).fz, _) = _
    simp only [D.fz, fzk_eff]; rfl
  refine ⟨_, rfl, by decide, _, rfl, _, rfl, _, eq_nilS hso, _, rfl, ?_⟩
  cases hne : nm.isEmpty
  · rw [if_neg Bool.false_ne_true]
    dsimp only [dTst, dBin]
    refine io_take (d0 := d2) rfl (ez_fz ev_c ez_nil) rfl (take_ok hp2 (by omega) (by decide) (by decide) fun r d3 r0 r1 hp3 => ?_)
    refine ⟨_, rfl, _, rfl, _, eq_i r 0, _, rfl, ?_⟩
    split
    · exact nonR d3 _ (hp3.mono (by omega))
    · refine ⟨_, rfl, _, _, rfl, _, rfl, .dct false (effD es), [some d3, some (.tup (sDs fl)), some (.lst o (sDs nm)), some (.str ls), some (.str ks), some (.dct false (effD es))], ?_, ⟨d3, rfl⟩, _, rfl, .lst false (sDs nm), [some d3, some (.tup (sDs fl)), some (.lst false (sDs nm)), some (.str ls), some (.str ks), some (.dct false (effD es))], ?_, rfl, d3, rfl, pick_ok (ds := sDs nm) hp3 (by omega) ?_ (by rw [List.length_map]; omega) (isFzs_sDs nm) fun y d4 hy hp4 => ?_⟩
      · show some ((D.dct true (effD es)).fz, _) = _
        simp only [D.fz, fzk_eff]; rfl
      · show some ((D.lst o (sDs nm)).fz, _) = _
        simp only [D.fz, fzs_sDs]; rfl
      · intro z
        rw [List.map_eq_nil_iff] at z
        rw [z] at hne; cases hne
      · obtain ⟨z, hz, rfl⟩ := List.mem_map.mp hy
        exact ⟨_, _, rfl, by show 3 ≤ sizeLine; decide, _, _, rfl, fin (some z) d4 _ (fun w e => by cases e; exact hz) (hp4.mono (by omega))⟩
  · rw [if_pos rfl]
    exact nonR d2 _ (hp2.mono (by omega))
/-! ### some of some -/
section
variable {ρ : Env} {k : Nat} {a b c e f g : Option D}
theorem env1 (h : 0 ≠ k) : ((((ρ.set 0 a).set k b).set k c).set 0 e).set k f = (ρ.set 0 e).set k f := by
  rw [List.set_set, List.set_comm _ _ h.symm, List.set_set, List.set_set]
theorem env2 (h : 0 ≠ k) : (((((ρ.set 0 a).set k b).set k c).set 0 e).set k f).set k g = (ρ.set 0 e).set k g := by
  rw [List.set_set, env1 h]
theorem envG0 (h : 0 ≠ k) (hl : 0 < ρ.length) : (((ρ.set 0 a).set k b).set k c).getD 0 none = a := by
  rw [List.getD_eq_getElem?_getD, List.getElem?_set_ne h.symm, List.getElem?_set_ne h.symm, List.getElem?_set_self hl]; rfl
theorem envGk (h : 0 ≠ k) (hl : k < ρ.length) : ((((ρ.set 0 a).set k b).set k c).set 0 e).getD k none = c := by
  rw [List.getD_eq_getElem?_getD, List.getElem?_set_ne h, List.getElem?_set_self (by simpa using hl)]; rfl
end
/-- [x for x in .. if a draw says so]: the names ss, a test that draws once -/
theorem comp_draw {n k : Nat} {tt : TDT} {ρ : Env} {d : D} {ss : List Str} {Q : List D → Env → Prop} (hk0 : 0 ≠ k) (hk : k < ρ.length) (hp : PenOk n d) (h0 : ρ.getD 0 none = some d) (hl : ss.length ≤ 1000)
    (ht : ∀ ρ' d' n' (Q' : Bool → Env → Prop), PenOk n' d' → n' < n + ss.length → ρ'.getD 0 none = some d' → (∀ b d2, PenOk (n' + 1) d2 → Q' b (ρ'.set 0 (some d2))) → tt ρ' Q') (h : ∀ sub d', sub.Sublist ss → PenOk (n + ss.length) d' → Q (sDs sub) ((ρ.set 0 (some d')).set k none)) : compD (gN k) tt (dVar k) [k] Q (sDs ss) [] ρ := by
  have hz : 0 < ρ.length := by omega
  refine comp_ind (fun ds acc ρ' => ∃ done rest sub d', ss = done ++ rest ∧ ds = sDs rest ∧ acc = sDs sub ∧ sub.Sublist done ∧ PenOk (n + done.length) d' ∧ ρ'.set k none = (ρ.set 0 (some d')).set k none) (fun acc ρ' hI => ?_) (fun R f ds acc ρ' hI kk => ?_) _ _ _ ⟨[], ss, [], d, rfl, rfl, rfl, .slnil, hp, by rw [set_same h0]⟩
  · obtain ⟨done, rest, sub, d', e1, e2, rfl, hs, hp', e⟩ := hI
    obtain rfl : rest = [] := by simpa using e2.symm
    rw [List.append_nil] at e1
    subst e1
    rw [show wipeE ρ' [k] = ρ'.set k none from rfl, e]
    exact h sub d' hs hp'
  · obtain ⟨done, rest, sub, d', e1, e2, rfl, hs, hp', e⟩ := hI
    cases rest with
    | nil => cases e2
    | cons s rest =>
      obtain ⟨rfl, rfl⟩ : f = .str s ∧ ds = sDs rest := by simpa using e2
      have hlen : ss.length = done.length + (rest.length + 1) := by rw [e1]; simp
      rw [show wipeE ρ' [k] = ρ'.set k none from rfl, e]
      show tt (((ρ.set 0 (some d')).set k none).set k (some (.str s))) _
      refine ht _ d' (n + done.length) _ hp' (by omega) (envG0 hk0 hz) fun b d2 hp2 => ?_
      have el : n + done.length + 1 = n + (done ++ [s]).length := by simp; omega
      rw [el] at hp2
      cases b
      · rw [if_neg Bool.false_ne_true]
        exact kk _ _ ⟨done ++ [s], rest, sub, d2, by simp [e1], rfl, rfl, hs.trans (List.sublist_append_left _ _), hp2, env1 hk0⟩
      · rw [if_pos rfl]
        have hle : (sDs sub).length < sizeLine := by
          rw [List.length_map]
          have h1 := hs.length_le
          have : (1000 : Nat) < sizeLine := by decide
          omega
        refine ⟨.str s, envGk hk0 hk, .str s, _, ?_, hle, kk _ _ ⟨done ++ [s], rest, sub ++ [s], d2, by simp [e1], rfl, by simp, hs.append (List.Sublist.refl _), hp2, env2 (a := some d') (b := none) (c := some (.str s)) (f := some (.str s)) hk0⟩⟩
        show (List.getD _ k none).map _ = _
        rw [envGk hk0 hk]; rfl
end KW
set_option maxHeartbeats 1000000
/-! KS5: keymaps that are drawn. -/
namespace KW
open PySem PySem.Spec L2
open PyProof.Rows hiding St

def LETS : Str := "abcdefghijklmnopqrstuvwxyz"
def isLet (c : Nat) : Bool := decide (c ∈ LETS.cps.toList)
def isLets (s : Str) : Bool := s.cps.toList.all isLet
def isName (s : Str) : Bool := decide (1 ≤ s.length) && decide (s.length ≤ 8) && isLets s
structure Bnd.Ok (flags nm : List Str) (b : Bnd) : Prop where
  k0 : 1 ≤ b.keys.length
  k1 : b.keys.length ≤ 4
  kl : isLets b.keys = true
  cn : (b.cond.map (·.1)).Nodup
  cf : ∀ s ∈ b.cond.map (·.1), s ∈ flags
  cm : ∀ x, b.cmd = some x → x ∈ nm
structure KM.Ok (k : KM) : Prop where
  flN : ∀ s ∈ k.flags, isName s = true
  flA : k.flags.Pairwise fun a b => ltS a b = true
  flL : k.flags.length ≤ 3
  outS : k.outside.Sublist k.flags
  cmN : ∀ p ∈ k.cmds, isName p.1 = true
  cmU : (k.cmds.map (·.1)).Nodup
  cmL : k.cmds.length ≤ 8
  cmE : ∀ p ∈ k.cmds, (p.2.map (·.1)).Nodup ∧ ∀ s ∈ p.2.map (·.1), s ∈ k.flags
  ly0 : 1 ≤ k.layers.length
  ly1 : k.layers.length ≤ 4
  tot : (k.layers.map List.length).sum ≤ 16
  bd : ∀ l ∈ k.layers, ∀ b ∈ l, b.Ok k.flags (k.cmds.map (·.1))
  wt : 1 ≤ k.wait ∧ k.wait ≤ 1000
abbrev fl0 : List Str := ["caps", "ins", "sel"]
abbrev nm0 : List Str := ["down", "layer", "nothing", "on", "up"]
theorem fl0_name : ∀ s ∈ fl0, isName s = true := by decide +kernel
theorem fl0_asc : fl0.Pairwise fun a b => ltS a b = true := by decide +kernel
theorem fl0_nd : fl0.Nodup := by decide +kernel
theorem nm0_name : ∀ s ∈ nm0, isName s = true := by decide +kernel
theorem nm0_ok : ∀ s ∈ nm0, PyData.strOk s = true := by decide +kernel
theorem nm0_nd : nm0.Nodup := by decide +kernel
/-- a test by one draw -/
theorem tt_gt {m : Int} {ρ : Env} {d : D} {n : Nat} {Q : Bool → Env → Prop} (h0 : 0 < m) (h1 : m < 2 ^ 30) (hp : PenOk n d) (hn : n ≤ 2 ^ 30) (g : ρ.getD 0 none = some d) (q : ∀ b d2, PenOk (n + 1) d2 → Q b (ρ.set 0 (some d2))) : (dTst (dBin gtD (dCallI 0 2 F_take (zFz (dC (.int m)) zNil)) (dC (.int 0)))) ρ Q := by
  dsimp only [dTst, dBin]
  exact io_take (d0 := d) g (ez_fz ev_c ez_nil) rfl (take_ok hp hn h0 h1 fun r d2 r0 r1 hp2 => ⟨_, rfl, _, rfl, _, rfl, _, rfl, q _ d2 hp2⟩)
theorem tt_eq {m : Int} {ρ : Env} {d : D} {n : Nat} {Q : Bool → Env → Prop} (h0 : 0 < m) (h1 : m < 2 ^ 30) (hp : PenOk n d) (hn : n ≤ 2 ^ 30) (g : ρ.getD 0 none = some d) (q : ∀ b d2, PenOk (n + 1) d2 → Q b (ρ.set 0 (some d2))) : (dTst (dBin eqD (dCallI 0 2 F_take (zFz (dC (.int m)) zNil)) (dC (.int 0)))) ρ Q := by
  dsimp only [dTst, dBin]
  exact io_take (d0 := d) g (ez_fz ev_c ez_nil) rfl (take_ok hp hn h0 h1 fun r d2 r0 r1 hp2 => ⟨_, rfl, _, rfl, _, eq_i r 0, _, rfl, q _ d2 hp2⟩)
/-- the names' effects -/
theorem mkD_new : ∀ (ps acc : List (D × D)), ((acc ++ ps).map fun p => kN p.1).Nodup → putAll acc ps = acc ++ ps
  | [], acc, _ => by simp [putAll]
  | p :: ps, acc, h => by
    have hn : ∀ q ∈ acc, kN q.1 ≠ kN p.1 := fun q hq z => by
      rw [List.map_append] at h
      exact (List.nodup_append.mp h).2.2 _ (List.mem_map.mpr ⟨q, hq, rfl⟩) _ (List.mem_map.mpr ⟨p, List.mem_cons_self, rfl⟩) z
    have e : ∀ (l : List (D × D)), (∀ q ∈ l, kN q.1 ≠ kN p.1) → setK l p.1 p.2 = l ++ [p] := fun l hl => by
      induction l with
      | nil => rfl
      | cons q l ih =>
        show (if kN q.1 = kN p.1 then (q.1, p.2) :: l else q :: setK l p.1 p.2) = _
        rw [if_neg (hl q List.mem_cons_self), ih fun r hr => hl r (List.mem_cons_of_mem _ hr)]; rfl
    show putAll (setK acc p.1 p.2) ps = _
    rw [e acc hn, mkD_new ps (acc ++ [p]) (by simpa using h)]
    simp
def prD (p : Str × List (Str × Bool)) : D := .tup [.str p.1, .dct false (effD p.2)]
theorem pairs_pr : ∀ cs : List (Str × List (Str × Bool)), pairsD (cs.map prD) = some (cmdsD cs)
  | [] => rfl
  | c :: cs => by
    show (pairsD (cs.map prD)).map ((D.str c.1, D.dct false (effD c.2)) :: ·) = _
    rw [pairs_pr cs]; rfl
theorem prD_fz (p : Str × List (Str × Bool)) : (prD p).isFz = true := fz_isFz (by unfold prD; simp only [D.fz, D.fzs, fzk_eff])
theorem dict_pr {cs : List (Str × List (Str × Bool))} (hn : (cs.map (·.1)).Nodup) (hl : cs.length ≤ sizeLine) : dictD [.lst true (cs.map prD)] = some (.dct true (cmdsD cs)) := by
  show (if D.isFzs (cs.map prD) = true then (pairsD (cs.map prD)).bind (fun ps => if (ps.all fun p => keyOk p.1) = true ∧ ps.length ≤ sizeLine then some (D.dct true (mkD ps)) else none) else none) = _
  rw [if_pos (isFzs_map _ prD_fz cs), pairs_pr]
  show (if ((cmdsD cs).all fun p => keyOk p.1) = true ∧ (cmdsD cs).length ≤ sizeLine then some (D.dct true (mkD (cmdsD cs))) else none) = _
  have hk : ((cmdsD cs).all fun p => keyOk p.1) = true := by
    rw [List.all_eq_true]
    intro p hp
    obtain ⟨q, _, rfl⟩ := List.mem_map.mp hp
    show decide ((NestedKey.text q.1).depth ≤ 8) = true
    simp [NestedKey.depth]
  rw [if_pos ⟨hk, by rw [cmdsD, List.length_map]; exact hl⟩]
  show some (D.dct true (putAll [] (cmdsD cs))) = _
  have hu : (([] ++ cmdsD cs : List (D × D)).map fun p => kN p.1).Nodup := by
    rw [List.nil_append, cmdsD, List.map_map]
    have : ((fun p : D × D => kN p.1) ∘ fun p : Str × List (Str × Bool) => ((D.str p.1, D.dct false (effD p.2)) : D × D)) = (fun s => NestedKey.text s) ∘ fun p : Str × List (Str × Bool) => p.1 := rfl
    rw [this, ← List.map_map]
    exact List.pairwise_map.mpr (hn.imp fun h z => h (NestedKey.text.inj z))
  rw [mkD_new _ _ hu]; rfl
abbrev rows (Ls : List (List Bnd)) : List D := Ls.map fun l => .lst true (l.map Bnd.toD)
def total (Ls : List (List Bnd)) : Nat := (Ls.map List.length).sum
theorem rows_set (Ls : List (List Bnd)) (j : Nat) (l : List Bnd) : (rows Ls).set j (.lst true (l.map Bnd.toD)) = rows (Ls.set j l) := by
  rw [rows, ← List.map_set]
theorem total_set : ∀ {Ls : List (List Bnd)} {j : Nat} {l : List Bnd} (b : Bnd), Ls[j]? = some l → total (Ls.set j (l ++ [b])) = total Ls + 1
  | [], _, _, _, h => by simp at h
  | x :: Ls, 0, l, b, h => by
    obtain rfl : x = l := by simpa using h
    simp [total]; omega
  | x :: Ls, j + 1, l, b, h => by
    have := total_set (Ls := Ls) (j := j) (l := l) b (by simpa using h)
    simp only [total, List.set_cons_succ, List.map_cons, List.sum_cons] at this ⊢
    omega
theorem le_total : ∀ {Ls : List (List Bnd)} {l : List Bnd}, l ∈ Ls → l.length ≤ total Ls
  | x :: Ls, l, h => by
    have e : total (x :: Ls) = x.length + total Ls := by simp [total]
    rcases List.mem_cons.mp h with z | z
    · rw [z]; omega
    · have := le_total z; omega
theorem mem_set {α : Type} {Ls : List α} {j : Nat} {x y : α} (h : y ∈ Ls.set j x) : y = x ∨ y ∈ Ls := by
  rcases List.mem_or_eq_of_mem_set h with z | z
  · exact .inr z
  · exact .inl z
/-- where the layers' loop goes -/
theorem layers_loop {n : Nat} {fl nm : List Str} {ls : Str} {Q : D → D → Prop} {Dd : EndsD} (A B C O W : Option D) (Bk : Bnd → Prop) (hnm : nm.length ≤ 100) (hso : ∀ s ∈ nm, PyData.strOk s = true) (hl : fl.length ≤ 3) (nd : fl.Nodup) (h0 : 0 < ls.length) (h1 : ls.length ≤ sizeLine)
    (hB : ∀ b : Bnd, 1 ≤ b.keys.length → b.keys.length ≤ 4 → (∀ c ∈ b.keys.cps.toList, c ∈ ls.cps.toList) → (b.cond.map (·.1)).Sublist fl → (∀ x, b.cmd = some x → x ∈ nm) → Bk b) {o : Bool} {L m : Nat} {d : D} (hL : 1 ≤ L) (hL4 : L ≤ 4) (hm : m ≤ 16) (hp : PenOk n d) (hn : n + 2000 ≤ 2 ^ 30) (T X Y Z : Option D)
    (fin : ∀ Ls d' o' T', Ls.length = L → total Ls = m → (∀ l ∈ Ls, ∀ b ∈ l, Bk b) → PenOk (n + 11 * m) d' → Dd.nx [some d', A, some (.tup (sDs fl)), O, some (.lst o' (sDs nm)), C, some (.str ls), some (.lst true (rows Ls)), T', W, X, Y, Z]) :
    forD (gN 8) (dPick 0 7 F_take (dCallI 0 4 F_wbinding (zFz (dVar 2) (zFz (dVar 4) (zFz (dVar 6) zNil))))) Dd ((List.range m).map fun i : Nat => .int (0 + (i : Int)))
      [some d, A, some (.tup (sDs fl)), O, some (.lst o (sDs nm)), C, some (.str ls), some (.lst true (rows (List.replicate L []))), T, W, X, Y, Z] := by
  refine for_ind (fun ds ρ => ∃ Ls d' o' T', Ls.length = L ∧ total Ls + ds.length = m ∧ (∀ l ∈ Ls, ∀ b ∈ l, Bk b) ∧ PenOk (n + 11 * total Ls) d' ∧ ρ = [some d', A, some (.tup (sDs fl)), O, some (.lst o' (sDs nm)), C, some (.str ls), some (.lst true (rows Ls)), T', W, X, Y, Z]) (fun ρ hI => ?_) (fun R f ds ρ hI k => ?_) _ _ ⟨List.replicate L [], d, o, T, by simp, by simp [total], (fun l hl b hb => by rw [(List.mem_replicate.mp hl).2] at hb; cases hb), hp.mono (by omega), rfl⟩
  · obtain ⟨Ls, d', o', T', e1, e2, hb, hp', rfl⟩ := hI
    rw [List.length_nil, Nat.add_zero] at e2
    exact fin Ls d' o' T' e1 e2 hb (by rw [← e2]; exact hp')
  · obtain ⟨Ls, d', o', T', e1, e2, hb, hp', rfl⟩ := hI
    rw [List.length_cons] at e2
    refine (show dPick _ _ _ _ _ _ from ⟨d', rows Ls, rfl, rfl, take_ok hp' (by omega) (by rw [List.length_map]; omega) (by rw [List.length_map]; omega) fun r d2 r0 r1 hp2 => ?_⟩)
    rw [List.length_map] at r1
    have hj : r.toNat < Ls.length := by omega
    refine ⟨r, r.toNat, (Ls[r.toNat]).map Bnd.toD, rfl, ?_, ?_, ?_⟩
    · unfold L2.ixN
      rw [if_pos r0, if_pos (by rw [List.length_map]; exact r1)]
    · rw [List.getElem?_map, List.getElem?_eq_getElem hj]; rfl
    · refine (show dCallI 0 4 F_wbinding (zFz (dVar 2) (zFz (dVar 4) (zFz (dVar 6) zNil))) [some d2, A, some (.tup (sDs fl)), O, some (.lst o' (sDs nm)), C, some (.str ls), none, some f, W, X, Y, Z] _ from ?_)
      refine ⟨⟨d2, rfl⟩, _, rfl, .tup (sDs fl), _, fz_fz' (x := .slot 2) rfl (fz_tupS fl), _, rfl, .lst false (sDs nm), [some d2, A, some (.tup (sDs fl)), O, some (.lst false (sDs nm)), C, some (.str ls), none, some f, W, X, Y, Z], ?_, _, rfl, _, _, rfl, rfl, d2, rfl, ?_⟩
      · show some ((D.lst o' (sDs nm)).fz, _) = _
        simp only [D.fz, fzs_sDs]; rfl
      · refine wbinding_ok hp2 (by omega) hl nd hnm hso h0 h1 fun b d3 b0 b1 b2 b3 b4 hp3 => ⟨b.toD, _, rfl, ?_, ?_⟩
        · rw [List.length_map]
          have h9 : (Ls[r.toNat]).length ≤ total Ls := by
            exact le_total (List.getElem_mem hj)
          have : 16 < sizeLine := by decide
          omega
        · have e3 : Ls[r.toNat]? = some Ls[r.toNat] := List.getElem?_eq_getElem hj
          have e4 : ((rows Ls).set r.toNat (D.lst true ((Ls[r.toNat]).map Bnd.toD ++ [b.toD]))) = rows (Ls.set r.toNat (Ls[r.toNat] ++ [b])) := by
            rw [← rows_set, List.map_append]; rfl
          rw [e4]
          refine k _ ⟨Ls.set r.toNat (Ls[r.toNat] ++ [b]), d3, false, some f, by simpa using e1, by rw [total_set b e3]; omega, fun l hl b' hb' => ?_, by rw [total_set b e3]; exact hp3.mono (by omega), rfl⟩
          rcases mem_set hl with z | z
          · subst z
            rcases List.mem_append.mp hb' with z | z
            · exact hb _ (List.getElem_mem hj) b' z
            · rw [List.mem_singleton.mp z]; exact hB b b0 b1 b2 b3 b4
          · exact hb l z b' hb'
end KW
set_option maxHeartbeats 1000000
/-! KS6: keymaps that are drawn, whole. -/
namespace KW
open PySem PySem.Spec L2
open PyProof.Rows hiding St

abbrev rowsF (Ls : List (List Bnd)) : List D := Ls.map fun l => .lst false (l.map Bnd.toD)
theorem rows_fz (Ls : List (List Bnd)) : (D.lst true (rows Ls)).fz = .lst false (rowsF Ls) := by
  rw [D.fz, D.fzs_eq, List.map_map]
  congr 1
  refine List.map_congr_left fun l _ => ?_
  show (D.lst true (l.map Bnd.toD)).fz = _
  rw [D.fz, fzs_map _ Bnd.fz]
def unl : D → D
  | .lst _ ds => .tup ds
  | d => d
theorem wmap_end {n : Nat} {d : D} {fl out : List Str} {cs : List (Str × List (Str × Bool))} {Ls : List (List Bnd)} {Q : D → D → Prop} (A N C T W X Y Z : Option D) (hp : PenOk n d) (hn : n + 2000 ≤ 2 ^ 30) (hL : Ls.length ≤ 4) (hT : total Ls ≤ 16)
    (h : ∀ w d2, 1 ≤ w → w ≤ 1000 → PenOk (n + 2) d2 → Q (KM.toD ⟨fl, out, cs, Ls, w⟩) d2) :
    dSeq (dSet 9 (dCallI 0 2 F_wpick (zFz (dLstE (zFz (dC (.int 1)) (zFz (dC (.int 2)) (zFz (dC (.int 5)) (zFz (dBin addD (dC (.int 1)) (dCallI 0 2 F_take (zFz (dC (.int 1000)) zNil))) zNil))))) zNil)))
      (dRet (dTupE (zFz (dVar 2) (zFz (dVar 3) (zFz (dVar 5) (zFz (dCall tupleD (dCons (dComp (dIter (dVar 7)) (gN 12) dYes (dCall tupleD (dCons (dVar 12) dNil)) [12]) dNil)) (zFz (dVar 9) zNil)))))))
      { nx := fun ρ => ∃ d0', ρ.getD 0 none = some d0' ∧ Q .non d0', rt := fun d ρ => ∃ d0', ρ.getD 0 none = some d0' ∧ Q d d0' }
      [some d, A, some (.tup (sDs fl)), some (.tup (sDs out)), N, some (.dct true (cmdsD cs)), C, some (.lst true (rows Ls)), T, W, X, Y, Z] := by
  refine ⟨⟨d, rfl⟩, _, _, rfl, _, _, rfl, _, _, rfl, ⟨d, rfl⟩, _, _, rfl, rfl, d, rfl, take_ok hp (by omega) (by decide) (by decide) fun r d1 r0 r1 hp1 => ⟨_, rfl, _, rfl, _, rfl, _, _, rfl, by show 4 ≤ sizeLine; decide, _, _, rfl, rfl, d1, rfl, ?_⟩⟩
  refine pick_ok (ds := [1, 2, 5, 1 + r].map D.int) hp1 (by omega) (by simp) (by simp) (isFzs_ints' _) fun x d2 hx hp2 => ⟨_, _, rfl, ?_⟩
  obtain ⟨w, hw, rfl⟩ := List.mem_map.mp hx
  have hw2 : 1 ≤ w ∧ w ≤ 1000 := by
    simp only [List.mem_cons, List.not_mem_nil, or_false] at hw
    omega
  refine ⟨_, rfl, .tup (sDs fl), _, fz_fz' (x := .slot 2) rfl (fz_tupS fl), _, rfl, .tup (sDs out), _, fz_fz' (x := .slot 3) rfl (fz_tupS out), _, rfl, .dct false (cmdsD cs), [some d2, A, some (.tup (sDs fl)), some (.tup (sDs out)), N, some (.dct false (cmdsD cs)), C, some (.lst true (rows Ls)), T, some (.int w), X, Y, Z], ?_, _, rfl, .lst false (rowsF Ls), [some d2, A, some (.tup (sDs fl)), some (.tup (sDs out)), N, some (.dct false (cmdsD cs)), C, some (.lst false (rowsF Ls)), T, some (.int w), X, Y, Z], ?_, rowsF Ls, rfl, ?_⟩
  · show some ((D.dct true (cmdsD cs)).fz, _) = _
    simp only [D.fz, cmdsD_fz]; rfl
  · show some ((D.lst true (rows Ls)).fz, _) = _
    rw [rows_fz]; rfl
  have hsz : 16 < sizeLine := by decide
  refine comp_map (f := unl) _ (by rw [List.length_map]; omega) (fun x hx Q' hq => ?_) ?_
  · obtain ⟨l, hl, rfl⟩ := List.mem_map.mp hx
    refine ⟨_, rfl, _, rfl, .tup (l.map Bnd.toD), ?_, hq _ _ rfl⟩
    show (if D.isFzs (l.map Bnd.toD) = true then some (D.tup (l.map Bnd.toD)) else none) = _
    rw [if_pos (isFzs_map _ (fun b => fz_isFz b.fz) l)]
  · have e : (rowsF Ls).map unl = Ls.map layD := by rw [List.map_map]; rfl
    rw [e]
    refine ⟨_, rfl, .tup (Ls.map layD), ?_, .tup (Ls.map layD), [some d2, A, some (.tup (sDs fl)), some (.tup (sDs out)), N, some (.dct false (cmdsD cs)), C, some (.lst false (rowsF Ls)), T, some (.int w), X, Y, none], ?_, _, rfl, _, _, rfl, by show 5 ≤ sizeLine; decide, _, _, rfl, d2, rfl, h w d2 hw2.1 hw2.2 hp2⟩
    · show (if D.isFzs (Ls.map layD) = true then some (D.tup (Ls.map layD)) else none) = _
      rw [if_pos (isFzs_map _ (fun b => fz_isFz (layD_fz b)) Ls)]
    · show some ((D.tup (Ls.map layD)).fz, _) = _
      rw [D.fz, fzs_map _ layD_fz]; rfl
end KW
set_option maxHeartbeats 2000000
/-! KS7: keymaps that are drawn, whole. -/
namespace KW
open PySem PySem.Spec L2
open PyProof.Rows hiding St

/-- [(name, effect) for name in names] -/
theorem comp_cmds {n k : Nat} {ρ : Env} {d : D} {fl nm : List Str} {Q : List D → Env → Prop} (hk0 : 0 ≠ k) (hk : k < ρ.length) (hk2 : 2 ≠ k) (hp : PenOk n d) (hn : n + 2000 ≤ 2 ^ 30) (h0 : ρ.getD 0 none = some d) (h2 : ρ.getD 2 none = some (.tup (sDs fl))) (hfl : fl.length ≤ 3) (nd : fl.Nodup) (hl : nm.length ≤ 8)
    (h : ∀ (cs : List (Str × List (Str × Bool))) (d' : D), cs.map (·.1) = nm → (∀ p ∈ cs, (p.2.map (·.1)).Sublist fl) → PenOk (n + 3 * nm.length) d' → Q (cs.map prD) ((ρ.set 0 (some d')).set k none)) :
    compD (gN k) dYes (dTupE (zFz (dVar k) (zFz (dCallI 0 2 F_weffect (zFz (dVar 2) zNil)) zNil))) [k] Q (sDs nm) [] ρ := by
  have hz : 0 < ρ.length := by omega
  refine comp_ind (fun ds acc ρ' => ∃ (done rest : List Str) (cs : List (Str × List (Str × Bool))) (d' : D), nm = done ++ rest ∧ ds = sDs rest ∧ acc = cs.map prD ∧ cs.map (·.1) = done ∧ (∀ p ∈ cs, (p.2.map (·.1)).Sublist fl) ∧ PenOk (n + 3 * done.length) d' ∧ ρ'.set k none = (ρ.set 0 (some d')).set k none) (fun acc ρ' hI => ?_) (fun R f ds acc ρ' hI kk => ?_) _ _ _ ⟨[], nm, [], d, rfl, rfl, rfl, rfl, (fun _ z => nomatch z), hp, by rw [set_same h0]⟩
  · obtain ⟨done, rest, cs, d', e1, e2, rfl, e3, hs, hp', e⟩ := hI
    obtain rfl : rest = [] := by simpa using e2.symm
    rw [List.append_nil] at e1
    subst e1
    rw [show wipeE ρ' [k] = ρ'.set k none from rfl, e]
    exact h cs d' e3 hs hp'
  · obtain ⟨done, rest, cs, d', e1, e2, rfl, e3, hs, hp', e⟩ := hI
    cases rest with
    | nil => cases e2
    | cons s rest =>
      obtain ⟨rfl, rfl⟩ : f = .str s ∧ ds = sDs rest := by simpa using e2
      have hlen : nm.length = done.length + (rest.length + 1) := by rw [e1]; simp
      rw [show wipeE ρ' [k] = ρ'.set k none from rfl, e]
      have g0 : (((ρ.set 0 (some d')).set k none).set k (some (.str s))).getD 0 none = some d' := envG0 hk0 hz
      have gk : (((ρ.set 0 (some d')).set k none).set k (some (.str s))).getD k none = some (.str s) := by
        rw [List.getD_eq_getElem?_getD, List.getElem?_set_self (by simpa using hk)]; rfl
      have g2 : (((ρ.set 0 (some d')).set k none).set k (some (.str s))).getD 2 none = some (.tup (sDs fl)) := by
        rw [List.getD_eq_getElem?_getD, List.getElem?_set_ne hk2.symm, List.getElem?_set_ne hk2.symm, List.getElem?_set_ne (by decide), ← List.getD_eq_getElem?_getD, h2]
      dsimp only [gN, dYes]
      rw [if_pos rfl]
      refine ⟨_, gk, .str s, _, fz_fz' (x := .slot k) gk rfl, ⟨d', g0⟩, _, g2, .tup (sDs fl), _, fz_fz' (x := .slot 2) g2 (fz_tupS fl), rfl, d', g0, weffect_ok hp' (by omega) (by omega) nd fun es d2 hes hp2 => ⟨.dct false (effD es), (((ρ.set 0 (some d')).set k none).set k (some (.str s))).set 0 (some d2), ?_, by show 2 ≤ sizeLine; decide, prD (s, es), _, rfl, ?_, ?_⟩⟩
      · show some ((D.dct true (effD es)).fz, _) = _
        simp only [D.fz, fzk_eff]
      · have h1 := congrArg List.length e3
        rw [List.length_map] at h1 ⊢
        have : 8 < sizeLine := by decide
        omega
      · refine kk _ _ ⟨done ++ [s], rest, cs ++ [(s, es)], d2, by simp [e1], rfl, by simp, by simp [e3], fun p hp => ?_, ?_, env1 hk0⟩
        · rcases List.mem_append.mp hp with z | z
          · exact hs p z
          · rw [List.mem_singleton.mp z]; exact hes
        · rw [List.length_append]; exact hp2.mono (by simp; omega)
theorem fzV {o : Bool} {ρ : Env} (l : List Str) : fzO (.val (D.lst o (sDs l))) ρ = some (.lst false (sDs l), ρ) := by
  show some ((D.lst o (sDs l)).fz, ρ) = _
  rw [D.fz, fzs_sDs]
theorem sub_name {l m : List Str} (h : l.Sublist m) (k : ∀ s ∈ m, isName s = true) : ∀ s ∈ l, isName s = true := fun s hs => k s (h.subset hs)
abbrev lets0 : List Str := ["ab", "abc", "jk", "amxz"]
theorem lets0_ok : ∀ s ∈ lets0, 0 < s.length ∧ s.length ≤ 4 ∧ isLets s = true := by decide +kernel
/-- the end of wmap's reading -/
def wmap_tail : TDS :=
  (dSeq (dSetC 7 (dComp (dRng1 (zFz (dBin addD (dC (.int 1)) (dCallI 0 2 F_take (zFz (dC (.int 4)) zNil))) zNil)) (gN 8) dYes (dLstE zNil) [8]))
  (dSeq (dFor (dRng1 (zFz (dCallI 0 2 F_take (zFz (dBin addD (dVar 1) (dC (.int 1))) zNil)) zNil)) (gN 8) (dPick 0 7 F_take (dCallI 0 4 F_wbinding (zFz (dVar 2) (zFz (dVar 4) (zFz (dVar 6) zNil))))))
  (dSeq (dSet 9 (dCallI 0 2 F_wpick (zFz (dLstE (zFz (dC (.int 1)) (zFz (dC (.int 2)) (zFz (dC (.int 5)) (zFz (dBin addD (dC (.int 1)) (dCallI 0 2 F_take (zFz (dC (.int 1000)) zNil))) zNil))))) zNil)))
  (dRet (dTupE (zFz (dVar 2) (zFz (dVar 3) (zFz (dVar 5) (zFz (dCall tupleD (dCons (dComp (dIter (dVar 7)) (gN 12) dYes (dCall tupleD (dCons (dVar 12) dNil)) [12]) dNil)) (zFz (dVar 9) zNil))))))))))
theorem wmap_tail_ok {n : Nat} {d6 : D} {most : Int} {fl out nm nm' : List Str} {cs : List (Str × List (Str × Bool))} {ls : Str} {Q : D → D → Prop} (hp6 : PenOk n d6) (hn : n + 2500 ≤ 2 ^ 30) (hm0 : 0 ≤ most) (hm1 : most ≤ 16) (hfl : fl.Sublist fl0) (hout : out.Sublist fl) (hnm : nm.Sublist nm0) (hmem : ∀ s, s ∈ nm' ↔ s ∈ nm) (nd' : nm'.Nodup) (hl' : nm'.length ≤ 5) (ecs : cs.map (·.1) = nm') (hcs : ∀ p ∈ cs, (p.2.map (·.1)).Sublist fl) (hls : ls ∈ lets0)
    (h : ∀ k d', KM.Ok k → PenOk (n + 400) d' → Q k.toD d') : wmap_tail { nx := fun ρ => ∃ d0', ρ.getD 0 none = some d0' ∧ Q .non d0', rt := fun d ρ => ∃ d0', ρ.getD 0 none = some d0' ∧ Q d d0' }
      [some d6, some (.int most), some (.tup (sDs fl)), some (.tup (sDs out)), some (.lst true (sDs nm)), some (.dct true (cmdsD cs)), some (.str ls), none, none, none, none, none, none] := by
  obtain ⟨l0, l4, lL⟩ := lets0_ok ls hls
  have fl3 : fl.length ≤ 3 := hfl.length_le
  have flnd : fl.Nodup := fl0_nd.sublist hfl
  have nm5 : nm.length ≤ 5 := hnm.length_le
  have nmS : ∀ s ∈ nm, PyData.strOk s = true := fun s hs => nm0_ok s (hnm.subset hs)
  have nmN : ∀ s ∈ nm, isName s = true := fun s hs => nm0_name s (hnm.subset hs)
  have cs5 : cs.length ≤ 5 := by
    have := congrArg List.length ecs
    rw [List.length_map] at this
    omega
  unfold wmap_tail
  refine ⟨⟨d6, rfl⟩, _, _, rfl, rfl, d6, rfl, take_ok hp6 (by omega) (by decide) (by decide) fun r d7 r0 r1 hp7 => ⟨_, rfl, _, rfl, _, rfl, _, _, rfl, 1 + r, rfl, by omega, by omega, ?_⟩⟩
  refine comp_map (f := fun _ => .lst true []) _ (by rw [List.length_map, List.length_range]; exact Nat.le_trans (show (1 + r).toNat ≤ 5 by omega) (by decide)) (fun x _ Q' hq => ⟨by show 0 ≤ sizeLine; decide, hq _ _ rfl⟩) ?_
  obtain ⟨L, hL1, hL4, eL⟩ : ∃ L : Nat, 1 ≤ L ∧ L ≤ 4 ∧ (((List.range (1 + r).toNat).map fun i : Nat => D.int (0 + (i : Int))).map fun _ => D.lst true []) = rows (List.replicate L []) := by
    refine ⟨(1 + r).toNat, by omega, by omega, ?_⟩
    rw [rows, List.map_replicate, List.map_map]
    exact List.eq_replicate_iff.mpr ⟨by simp, fun b hb => by obtain ⟨_, _, e⟩ := List.mem_map.mp hb; exact e.symm⟩
  rw [eL]
  refine ⟨⟨d7, rfl⟩, _, rfl, _, rfl, _, rfl, _, rfl, _, _, rfl, rfl, d7, rfl, take_ok (m := most + 1) hp7 (by omega) (by omega) (by omega) fun c d8 c0 c1 hp8 => ⟨_, _, rfl, c, rfl, by omega, by omega, ?_⟩⟩
  refine (show forD (gN 8) (dPick 0 7 F_take (dCallI 0 4 F_wbinding (zFz (dVar 2) (zFz (dVar 4) (zFz (dVar 6) zNil))))) _ ((List.range c.toNat).map fun i : Nat => D.int (0 + (i : Int))) [some d8, some (.int most), some (.tup (sDs fl)), some (.tup (sDs out)), some (.lst true (sDs nm)), some (.dct true (cmdsD cs)), some (.str ls), some (.lst true (rows (List.replicate L []))), none, none, none, none, none] from ?_)
  refine layers_loop (L := L) (fl := fl) (nm := nm) (ls := ls) (Q := Q) (o := true) (some (.int most)) none (some (.dct true (cmdsD cs))) (some (.tup (sDs out))) none (fun b => b.Ok fl (cs.map (·.1))) (by omega) nmS fl3 flnd l0 (Nat.le_trans l4 (by decide)) (fun b b0 b1 b2 b3 b4 => ⟨b0, b1, ?_, flnd.sublist b3, fun s hs => b3.subset hs, fun x hx => ?_⟩) hL1 hL4 (m := c.toNat) (by omega) hp8 (by omega) none none none none fun Ls d9 o' T' e1 e2 hb hp9 => ?_
  · unfold isLets at lL ⊢
    rw [List.all_eq_true] at lL ⊢
    exact fun ch hc => lL ch (b2 ch hc)
  · rw [ecs]; exact (hmem x).mpr (b4 x hx)
  · refine wmap_end (fl := fl) (out := out) (cs := cs) (Ls := Ls) _ _ _ _ _ _ _ _ hp9 (by omega) (by omega) (by omega) fun w d10 w0 w1 hp10 => h _ d10 ⟨sub_name hfl fl0_name, fl0_asc.sublist hfl, fl3, hout, fun p hp => ?_, ?_, Nat.le_trans cs5 (by decide), fun p hp => ?_, by show 1 ≤ Ls.length; omega, by show Ls.length ≤ 4; omega, by show total Ls ≤ 16; omega, hb, w0, w1⟩ (hp10.mono (by omega))
    · exact nmN _ ((hmem _).mp (by rw [← ecs]; exact List.mem_map.mpr ⟨p, hp, rfl⟩))
    · show (cs.map (·.1)).Nodup
      rw [ecs]; exact nd'
    · exact ⟨flnd.sublist (hcs p hp), fun s hs => (hcs p hp).subset hs⟩
/-- a keymap -/
theorem wmap_ok {n : Nat} {d : D} {most : Int} {Q : D → D → Prop} (hp : PenOk n d) (hn : n + 3000 ≤ 2 ^ 30) (hm0 : 0 ≤ most) (hm1 : most ≤ 16) (h : ∀ k d', KM.Ok k → PenOk (n + 500) d' → Q k.toD d') : F_wmap d [.int most] Q := by
  show rd_wmap _ [some d, some (.int most), none, none, none, none, none, none, none, none, none, none, none]
  unfold rd_wmap
  refine ⟨_, _, rfl, _, _, rfl, _, _, rfl, by show 3 ≤ sizeLine; decide, _, _, rfl, _, rfl, ?_⟩
  refine comp_draw (ss := fl0) (d := d) (by decide) (by show 11 < 13; decide) hp rfl (by decide) (fun ρ' d' n' Q' hp' hn' g q => tt_gt (by decide) (by decide) hp' (by have : fl0.length = 3 := rfl; omega) g q) fun fl d1 hfl hp1 => ⟨_, rfl, .tup (sDs fl), if_pos (isFzs_sDs fl), _, _, rfl, ?_⟩
  have fl3 : fl.length ≤ 3 := hfl.length_le
  refine ⟨_, rfl, .tup (sDs fl), _, fz_fz' (x := .slot 2) rfl (fz_tupS fl), sDs fl, rfl, ?_⟩
  refine comp_draw (ss := fl) (d := d1) (by decide) (by show 11 < 13; decide) hp1 rfl (by omega) (fun ρ' d' n' Q' hp' hn' g q => tt_eq (by decide) (by decide) hp' (by have : fl0.length = 3 := rfl; omega) g q) fun out d2 hout hp2 => ⟨_, rfl, .tup (sDs out), if_pos (isFzs_sDs out), _, _, rfl, ?_⟩
  refine ⟨_, _, rfl, _, _, rfl, _, _, rfl, _, _, rfl, _, _, rfl, by show 5 ≤ sizeLine; decide, _, _, rfl, _, rfl, ?_⟩
  refine comp_draw (ss := nm0) (d := d2) (by decide) (by show 10 < 13; decide) hp2 rfl (by decide) (fun ρ' d' n' Q' hp' hn' g q => tt_gt (by decide) (by decide) hp' (by have : fl0.length = 3 := rfl; have : nm0.length = 5 := rfl; omega) g q) fun nm d3 hnm hp3 => ?_
  have hp3 : PenOk (n + 11) d3 := hp3.mono (by have : fl0.length = 3 := rfl; have : nm0.length = 5 := rfl; omega)
  have nm5 : nm.length ≤ 5 := hnm.length_le
  have nmS : ∀ s ∈ nm, PyData.strOk s = true := fun s hs => nm0_ok s (hnm.subset hs)
  have nmN : ∀ s ∈ nm, isName s = true := fun s hs => nm0_name s (hnm.subset hs)
  have flnd : fl.Nodup := fl0_nd.sublist hfl
  refine ⟨_, rfl, ⟨d3, rfl⟩, _, _, rfl, ⟨_, rfl, _, rfl, _, _, rfl, by show 2 ≤ sizeLine; decide, _, _, rfl, rfl, d3, rfl, pick_ok (ds := [1, -1].map D.int) hp3 (by omega) (by decide) (by decide) (by decide) fun x d4 hx hp4 => ?_⟩⟩
  obtain ⟨st, hst, rfl⟩ := List.mem_map.mp hx
  -- the names, one way or the other
  obtain ⟨nm', e4, hmem, hl', nd'⟩ : ∃ nm' : List Str, stepD (.lst true (sDs nm)) st = some (.lst true (sDs nm')) ∧ (∀ s, s ∈ nm' ↔ s ∈ nm) ∧ nm'.length = nm.length ∧ nm'.Nodup := by
    have hst2 : st = 1 ∨ st = -1 := by simpa using hst
    rcases hst2 with rfl | rfl
    · exact ⟨nm, if_pos (isFzs_sDs nm), fun _ => Iff.rfl, rfl, nm0_nd.sublist hnm⟩
    · refine ⟨nm.reverse, ?_, fun s => List.mem_reverse, List.length_reverse, List.pairwise_reverse.mpr ((nm0_nd.sublist hnm).imp Ne.symm)⟩
      show (if D.isFzs (sDs nm) = true then _ else none) = _
      rw [if_pos (isFzs_sDs nm)]
      show some (D.lst true (sDs nm).reverse) = _
      rw [sDs, ← List.map_reverse]
  refine ⟨st, rfl, _, rfl, _, e4, .lst false (sDs nm'), _, fzV nm', sDs nm', rfl, ?_⟩
  refine comp_cmds (fl := fl) (d := d4) (by decide) (by show 10 < 13; decide) (by decide) hp4 (by omega) rfl rfl fl3 flnd (by omega) fun cs d5 ecs hcs hp5 => ?_
  have hp5 : PenOk (n + 27) d5 := hp5.mono (by omega)
  have cs5 : cs.length ≤ 5 := by
    have := congrArg List.length ecs
    rw [List.length_map] at this
    omega
  refine ⟨_, rfl, .dct true (cmdsD cs), dict_pr (by rw [ecs]; exact nd') (Nat.le_trans cs5 (by decide)), _, _, rfl, ?_⟩
  refine ⟨⟨d5, rfl⟩, _, _, rfl, _, _, rfl, _, _, rfl, _, _, rfl, by show 4 ≤ sizeLine; decide, _, _, rfl, rfl, d5, rfl, pick_ok (ds := sDs lets0) hp5 (by omega) (by decide) (by decide) (isFzs_sDs _) fun x d6 hx hp6 => ⟨_, _, rfl, ?_⟩⟩
  obtain ⟨ls, hls, rfl⟩ := List.mem_map.mp hx
  refine wmap_tail_ok hp6 (by omega) hm0 hm1 hfl hout hnm (fun s => hmem s) nd' (by omega) ecs hcs hls fun k d' hk hp' => h k d' hk (hp'.mono (by omega))
/-- a state -/
theorem wstate_ok {n : Nat} {d : D} {k : KM} {Q : D → D → Prop} (hp : PenOk n d) (hn : n + 3000 ≤ 2 ^ 30) (hk : k.Ok) (h : ∀ (bs : List Bool) d', bs.length = k.flags.length → PenOk (n + 3) d' → Q (.tup (bs.map .bl)) d') : F_wstate d [k.toD] Q := by
  show rd_wstate _ [some d, some k.toD, none]
  unfold rd_wstate
  have hz : (3 : Nat) < sizeLine := by decide
  have hfl := hk.flL
  refine ⟨_, rfl, _, rfl, _, rfl, .tup (sDs k.flags), ?_, .tup (sDs k.flags), _, fz_fz' (x := .val _) rfl (fz_tupS _), sDs k.flags, rfl, ?_⟩
  · show (some (D.tup (sDs k.flags))).bind (fun d => if d.isFz = true then some d else none) = _
    show (if (D.tup (sDs k.flags)).isFz = true then _ else none) = _
    rw [if_pos (fz_isFz (fz_tupS _))]
  · refine comp_ind (fun ds acc ρ => ∃ (bs : List Bool) (d' : D) (x : Option D), acc = bs.map .bl ∧ bs.length + ds.length = k.flags.length ∧ PenOk (n + bs.length) d' ∧ ρ = [some d', some k.toD, x]) (fun acc ρ hI => ?_) (fun R f ds acc ρ hI kk => ?_) _ _ _ ⟨[], d, none, rfl, by simp, hp, rfl⟩
    · obtain ⟨bs, d', x, rfl, hl, hp', rfl⟩ := hI
      rw [List.length_nil, Nat.add_zero] at hl
      exact ⟨_, rfl, .tup (bs.map .bl), if_pos (isFzs_map _ (fun _ => rfl) bs), _, _, rfl, d', rfl, h bs d' hl (hp'.mono (by omega))⟩
    · obtain ⟨bs, d', x, rfl, hl, hp', rfl⟩ := hI
      rw [List.length_cons] at hl
      refine ⟨⟨d', rfl⟩, _, _, rfl, rfl, d', rfl, take_ok hp' (by omega) (by decide) (by decide) fun r d2 r0 r1 hp2 => ⟨_, rfl, _, rfl, _, eq_i r 0, _, _, rfl, by rw [List.length_map]; omega, kk _ _ ⟨bs ++ [decide (r = 0)], d2, some f, by simp, by simp; omega, by rw [List.length_append]; exact hp2, rfl⟩⟩⟩
end KW
set_option maxHeartbeats 1000000
/-! KS8: pure readings, composed: tests, comprehensions, calls. -/
namespace KW
open PySem PySem.Spec L2
open PyProof.Rows hiding St

def Et (t : TDT) (ρ : Env) (b : Bool) : Prop := ∀ Q : Bool → Env → Prop, Q b ρ → t ρ Q
def Ei (t : TDI) (ρ : Env) (ds : List D) : Prop := ∀ Q : List D → Env → Prop, Q ds ρ → t ρ Q
section
variable {ρ : Env} {ta tb te : TDE} {t u : TDT} {ti : TDI} {tz : TDZ} {a b c : Bool} {d : D} {ds items : List D} {i j k : Int} {s x : Nat}
theorem et_tru (h : Ev te ρ (.bl b)) : Et (dTru te) ρ b := fun Q q => h _ fun x hx => ⟨_, hx, b, rfl, q⟩
theorem et_tst (h : Ev te ρ (.bl b)) : Et (dTst te) ρ b := fun Q q => h _ fun x hx => ⟨b, hx, q⟩
theorem et_not (h : Et t ρ b) : Et (dNot t) ρ (!b) := fun Q q => h _ q
theorem et_or (h : Et t ρ a) (k : a = false → Et u ρ b) : Et (dOr t u) ρ (a || b) := fun Q q => h _ (by
  cases a
  · exact k rfl _ q
  · exact q)
theorem et_and (h : Et t ρ a) (k : a = true → Et u ρ b) : Et (dAnd t u) ρ (a && b) := fun Q q => h _ (by
  cases a
  · exact q
  · exact k rfl _ q)
theorem et_if {A B : TDS} {Dd : EndsD} (h : Et t ρ c) (k : if c = true then A Dd ρ else B Dd ρ) : dIfS t A B Dd ρ := h _ k
theorem ev_andV (h : Ev ta ρ (.bl a)) (k : a = true → Ev tb ρ (.bl b)) : Ev (dAndV ta tb) ρ (.bl (a && b)) := fun Q q => h _ fun x hx => ⟨a, hx, by
  cases a
  · exact q _ rfl
  · exact k rfl _ q⟩
theorem ev_orV (h : Ev ta ρ (.bl a)) (k : a = false → Ev tb ρ (.bl b)) : Ev (dOrV ta tb) ρ (.bl (a || b)) := fun Q q => h _ fun x hx => ⟨a, hx, by
  cases a
  · exact k rfl _ q
  · exact q _ rfl⟩
theorem ev_notV (h : Ev ta ρ (.bl a)) : Ev (dNotV ta) ρ (.bl (!a)) := fun Q q => h _ fun x hx => ⟨a, hx, q _ rfl⟩
theorem ev_chain (ha : Ev ta ρ (.int i)) (hb : Ev tb ρ (.int j)) {tc : TDE} (hc : Ev tc ρ (.int k)) : Ev (dChain leD leD ta tb tc) ρ (.bl (decide (i ≤ j) && decide (j ≤ k))) := fun Q q => ha _ fun x hx => hb _ fun y hy => ⟨_, hx, _, hy, _, rfl, by
  cases h : decide (i ≤ j)
  · rw [h] at q; exact q _ rfl
  · rw [h, Bool.true_and] at q; exact hc _ fun z hz => ⟨_, hy, _, hz, _, rfl, q _ rfl⟩⟩
theorem ev_isi {T n : Ty} (h : Ev te ρ d) (ht : d.ty = some T) : Ev (dIsi n te) ρ (.bl (T.isa n)) := ev_un h (by unfold isiD; rw [ht]; rfl)
theorem ev_lenS {z : Str} (h : Ev te ρ (.str z)) (hz : z.length ≤ sizeLine) : Ev (dCall lenD (dCons te dNil)) ρ (.int z.length) := ev_call1 h (if_pos hz)
theorem ev_lenD {o : Bool} {kvs : List (D × D)} (h : Ev te ρ (.dct o kvs)) : Ev (dCall lenD (dCons te dNil)) ρ (.int kvs.length) := ev_call1 h rfl
theorem ei_iter (h : Ev te ρ d) (hd : d.fz = d) (hi : itemsD d = some ds) : Ei (dIter te) ρ ds := fun Q q => h _ fun x hx => ⟨d, ρ, fz_fz' hx hd, ds, hi, q⟩
theorem set_none (h : ρ.getD s none = none) : ρ.set s none = ρ := by
  refine List.ext_getElem? fun k => ?_
  by_cases e : k = s
  · subst e
    by_cases hl : k < ρ.length
    · rw [List.getElem?_set_self hl]
      rw [List.getD_eq_getElem?_getD, List.getElem?_eq_getElem hl] at h
      rw [List.getElem?_eq_getElem hl]
      exact congrArg some h.symm
    · rw [List.getElem?_eq_none (by simpa using hl), List.getElem?_eq_none (by omega)]
  · rw [List.getElem?_set_ne (Ne.symm e)]
/-- all([.. for x in ..]) and its like -/
theorem evv_comp {f : D → D} (hi : Ei ti ρ items) (hl : items.length ≤ sizeLine) (hs : ρ.getD s none = none) (h : ∀ d ∈ items, Ev te (ρ.set s (some d)) (f d)) (hf : ∀ d, (f d).fz = f d) : EvV (dComp ti (gN s) dYes te [s]) ρ (.lst true (items.map f)) := fun Q q => by
  have e := set_none hs
  refine hi _ (comp_map (f := f) items hl (fun d hd Q' hq => ?_) ?_)
  · rw [e] at hq ⊢
    exact h d hd _ fun x hx => hq x _ (take_fz hx (hf d))
  · rw [e]; exact q
theorem evv_callc {F : List D → Option D} {r : D} (h : EvV te ρ d) (hf : F [d] = some r) : EvV (dCall F (dCons te dNil)) ρ r := evv_call1 h.ev hf
theorem ev_all {p : D → Bool} (hi : Ei ti ρ items) (hl : items.length ≤ sizeLine) (hs : ρ.getD s none = none) (h : ∀ d ∈ items, Ev te (ρ.set s (some d)) (.bl (p d))) : Ev (dCall allD (dCons (dComp ti (gN s) dYes te [s]) dNil)) ρ (.bl (items.all p)) :=
  (evv_callc (evv_comp (f := fun d => .bl (p d)) hi hl hs h fun _ => rfl) (allD_map p items)).ev
theorem ev_sum {p : D → Int} (hi : Ei ti ρ items) (hl : items.length ≤ sizeLine) (hs : ρ.getD s none = none) (h : ∀ d ∈ items, Ev te (ρ.set s (some d)) (.int (p d))) : Ev (dCall sumD (dCons (dComp ti (gN s) dYes te [s]) dNil)) ρ (.int (items.map p).sum) :=
  (evv_callc (evv_comp (f := fun d => .int (p d)) hi hl hs h fun _ => rfl) (sumD_map p items)).ev
theorem evv_callU {n : Nat} {F : List D → (D → Prop) → Prop} (h : Ez tz ρ ds) (hl : ds.length = n) (k : ∀ Q : D → Prop, Q d → F ds Q) : EvV (dCallU n F tz) ρ d := fun Q q => h _ ⟨hl, k _ q⟩
theorem in_str1 {c : Nat} {z : Str} : inO (.str ⟨#[c]⟩) (.str z) = some (.bl (decide (c ∈ z.cps.toList))) := rfl
end
/-! ### plain values -/
mutual
/-- what a law hands over: nothing opaque, no text too long, keys that are keys -/
def D.nice : D → Bool
  | .non => true | .bl _ => true | .int _ => true | .opq _ => false
  | .str s => PyData.strOk s && decide (s.length ≤ sizeLine)
  | .tup ds => decide (ds.length ≤ sizeLine) && nices ds
  | .lst o ds => !o && decide (ds.length ≤ sizeLine) && nices ds
  | .dct o kvs => !o && decide (kvs.length ≤ sizeLine) && decide (keysN kvs).Nodup && nicek kvs
def D.nices : List D → Bool
  | [] => true
  | d :: ds => D.nice d && D.nices ds
def D.nicek : List (D × D) → Bool
  | [] => true
  | (k, d) :: r => keyOk k && D.flatEq k && D.nice k && D.nice d && D.nicek r
end
theorem D.nices_eq : ∀ ds : List D, D.nices ds = ds.all D.nice
  | [] => rfl
  | d :: ds => by rw [D.nices, D.nices_eq ds]; rfl
theorem D.nicek_eq : ∀ kvs : List (D × D), D.nicek kvs = kvs.all fun p => keyOk p.1 && D.flatEq p.1 && D.nice p.1 && D.nice p.2
  | [] => rfl
  | (k, d) :: r => by rw [D.nicek, D.nicek_eq r]; rfl
mutual
theorem D.nice_fz : ∀ d : D, d.nice = true → d.isFz = true
  | .non, _ => rfl | .bl _, _ => rfl | .int _, _ => rfl | .str _, _ => rfl | .opq _, _ => rfl
  | .tup ds, h => by
    rw [D.nice, Bool.and_eq_true] at h
    rw [D.isFz]; exact D.nices_fz ds h.2
  | .lst o ds, h => by
    rw [D.nice, Bool.and_eq_true, Bool.and_eq_true] at h
    rw [D.isFz, h.1.1, D.nices_fz ds h.2]; rfl
  | .dct o kvs, h => by
    rw [D.nice, Bool.and_eq_true, Bool.and_eq_true, Bool.and_eq_true] at h
    rw [D.isFz, h.1.1.1, D.nicek_fz kvs h.2]; rfl
theorem D.nices_fz : ∀ ds : List D, D.nices ds = true → D.isFzs ds = true
  | [], _ => rfl
  | d :: ds, h => by
    rw [D.nices, Bool.and_eq_true] at h
    rw [D.isFzs, D.nice_fz d h.1, D.nices_fz ds h.2]; rfl
theorem D.nicek_fz : ∀ kvs : List (D × D), D.nicek kvs = true → D.isFzk kvs = true
  | [], _ => rfl
  | (k, d) :: r, h => by
    rw [D.nicek, Bool.and_eq_true, Bool.and_eq_true] at h
    rw [D.isFzk, D.nice_fz d h.1.2, D.nicek_fz r h.2]; rfl
end
theorem D.nice_eqfz {d : D} (h : d.nice = true) : d.fz = d := D.fz_of d (D.nice_fz d h)
theorem D.nice_ty {d : D} (h : d.nice = true) : ∃ t, d.ty = some t := by
  cases d <;> first | exact ⟨_, rfl⟩ | cases h
end KW
set_option maxHeartbeats 1000000
/-! KS9: what is a keymap: exactly. -/
namespace KW
open PySem PySem.Spec L2
open PyProof.Rows hiding St

def isIntB (lo hi : Int) : D → Bool
  | .int i => decide (lo ≤ i) && decide (i ≤ hi)
  | _ => false
theorem is_integer_ok {d : D} {lo hi : Int} {Q : D → Prop} (hd : d.nice = true) (h : Q (.bl (isIntB lo hi d))) : F_is_integer [d, .int lo, .int hi] Q := by
  show rd_is_integer _ [some d, some (.int lo), some (.int hi)]
  unfold rd_is_integer
  cases d with
  | int i => exact ev_retP (ev_andV (ev_isi (ev_var rfl) rfl) fun _ => ev_andV (ev_notV (ev_isi (ev_var rfl) rfl)) fun _ => ev_chain (ev_var rfl) (ev_var rfl) (ev_var rfl)) fun _ => h
  | bl b => exact ev_retP (ev_andV (ev_isi (ev_var rfl) rfl) fun _ => ev_andV (b := false) (ev_notV (ev_isi (ev_var rfl) rfl)) fun z => absurd z (by decide)) fun _ => h
  | opq => cases hd
  | _ => exact ev_retP (ev_andV (b := false) (ev_isi (ev_var rfl) rfl) fun z => absurd z (by decide)) fun _ => h
def areLetB (lo hi : Int) : D → Bool
  | .str s => (decide (lo ≤ (s.length : Int)) && decide ((s.length : Int) ≤ hi)) && isLets s
  | _ => false
def sgB : D → Bool
  | .str z => isLets z
  | _ => false
theorem nice_str {s : Str} (h : (D.str s).nice = true) : PyData.strOk s = true ∧ s.length ≤ sizeLine := by
  rw [D.nice, Bool.and_eq_true, decide_eq_true_eq] at h
  exact h
theorem isLet_sg (c : Nat) : isLets ⟨#[c]⟩ = isLet c := by simp [isLets]
theorem are_letters_ok {d : D} {lo hi : Int} {Q : D → Prop} (hd : d.nice = true) (h : Q (.bl (areLetB lo hi d))) : F_are_letters [d, .int lo, .int hi] Q := by
  show rd_are_letters _ [some d, some (.int lo), some (.int hi), none]
  unfold rd_are_letters
  cases d with
  | str s =>
    obtain ⟨h1, h2⟩ := nice_str hd
    have e : (s.cps.toList.map fun c => D.str ⟨#[c]⟩).all sgB = isLets s := by
      rw [List.all_map]
      unfold isLets
      congr 1
      funext c
      exact isLet_sg c
    refine ev_retP (d := .bl (areLetB lo hi (.str s))) ?_ fun _ => h
    have := ev_andV (ρ := [some (.str s), some (.int lo), some (.int hi), none]) (ev_isi (n := .str) (ev_var (i := 0) rfl) rfl) fun _ => ev_andV (ev_chain (ev_var (i := 1) rfl) (ev_lenS (ev_var (i := 0) rfl) h2) (ev_var (i := 2) rfl)) fun _ => ev_all (s := 3) (te := dBin inO (dVar 3) (dC (.str "abcdefghijklmnopqrstuvwxyz"))) (p := sgB) (ei_iter (ev_var (i := 0) rfl) rfl rfl) (by rw [List.length_map, Array.length_toList]; exact h2) rfl fun x hx => by
      obtain ⟨c, _, rfl⟩ := List.mem_map.mp hx
      exact ev_bin (ev_var rfl) ev_c (by rw [in_str1]; show some (D.bl (isLet c)) = some (D.bl (isLets ⟨#[c]⟩)); rw [isLet_sg])
    rw [e] at this
    exact this
  | opq => cases hd
  | _ => exact ev_retP (ev_andV (b := false) (ev_isi (ev_var rfl) rfl) fun z => absurd z (by decide)) fun _ => h
/-! ### names -/
def ltB : D → D → Bool
  | .str a, .str b => ltS a b
  | _, _ => false
def areNamesB (m : Int) : D → Bool
  | .tup ds => decide ((ds.length : Int) ≤ m) && ds.all (areLetB 1 8) && (ds.zip (ds.drop 1)).all fun p => ltB p.1 p.2
  | _ => false
theorem nice_tup {ds : List D} (h : (D.tup ds).nice = true) : ds.length ≤ sizeLine ∧ ∀ d ∈ ds, d.nice = true := by
  rw [D.nice, Bool.and_eq_true, decide_eq_true_eq, D.nices_eq, List.all_eq_true] at h
  exact h
theorem fz_of_nice {d : D} (h : d.nice = true) : d.fz = d := D.nice_eqfz h
theorem letB_str {lo hi : Int} {d : D} (h : areLetB lo hi d = true) : ∃ s, d = .str s := by
  cases d <;> first | exact ⟨_, rfl⟩ | cases h
theorem cut1 (ds : List D) : cutD ds (some 1) none = ds.drop 1 := by
  unfold cutD
  have e1 : HT.sIx ds.length 0 (some 1) = min 1 ds.length := HT.sIx_nat _ _ 1
  rw [e1, HT.sIx_none]
  cases ds with
  | nil => rfl
  | cons d ds =>
    have : min 1 (d :: ds).length = 1 := by simp
    rw [this]
    exact List.take_of_length_le (by simp)
theorem zip_tup (as bs : List D) : zipD as bs = (as.zip bs).map fun p => .tup [p.1, p.2] := by
  unfold zipD
  rw [List.zip_eq_zipWith, List.map_zipWith]
theorem are_names_ok {d : D} {m : Int} {Q : D → Prop} (hd : d.nice = true) (h : Q (.bl (areNamesB m d))) : F_are_names [d, .int m] Q := by
  show rd_are_names _ [some d, some (.int m), none, none, none]
  unfold rd_are_names
  cases d with
  | tup ds =>
    obtain ⟨hl, hn⟩ := nice_tup hd
    have hf := fz_of_nice hd
    refine et_if (et_or (et_not (et_tru (ev_isi (ev_var rfl) rfl))) fun _ => et_or (et_tst (ev_gt (ev_lenT (ev_var rfl)) (ev_var rfl))) fun _ => et_not (et_tru (ev_all (p := areLetB 1 8) (ei_iter (ev_var rfl) hf rfl) hl rfl fun x hx =>
      (evv_callU (ez_fz (ev_var rfl) (ez_fz ev_c (ez_fz ev_c ez_nil)) (fz_of_nice (hn x hx))) rfl fun Q q => are_letters_ok (hn x hx) q).ev))) ?_
    have h : Q (.bl (decide ((ds.length : Int) ≤ m) && ds.all (areLetB 1 8) && (ds.zip (ds.drop 1)).all fun p => ltB p.1 p.2)) := h
    split
    · rename_i hc
      have e : (decide ((ds.length : Int) ≤ m) && ds.all (areLetB 1 8)) = false := by
        have hc : ((false || (decide (m < (ds.length : Int)) || !ds.all (areLetB 1 8)))) = true := hc
        cases h1 : decide ((ds.length : Int) ≤ m)
        · rfl
        · have : decide (m < (ds.length : Int)) = false := by
            rw [decide_eq_true_eq] at h1
            exact decide_eq_false (by omega)
          rw [this] at hc
          simpa using hc
      rw [e] at h
      exact ev_retP ev_c fun _ => h
    · rename_i hc
      have e : decide ((ds.length : Int) ≤ m) = true ∧ ds.all (areLetB 1 8) = true := by
        have hc : ¬ ((false || (decide (m < (ds.length : Int)) || !ds.all (areLetB 1 8)))) = true := hc
        simp only [Bool.false_or, Bool.or_eq_true, decide_eq_true_eq, not_or, Bool.not_eq_true', Bool.not_eq_false] at hc
        exact ⟨decide_eq_true (by omega), by simpa using hc.2⟩
      rw [e.1, e.2] at h
      dsimp only [dNext]
      have hs : ∀ x ∈ ds, ∃ s, x = .str s := fun x hx => letB_str (List.all_eq_true.mp e.2 x hx)
      refine ev_retP (d := .bl ((ds.zip (ds.drop 1)).all fun p => ltB p.1 p.2)) (evv_callc (d := .lst true ((ds.zip (ds.drop 1)).map fun p => .bl (ltB p.1 p.2))) (fun Q q => ?_) (allD_map _ _)).ev fun _ => h
      refine ⟨_, rfl, .tup ds, _, fz_fz' (x := .slot 0) rfl hf, _, rfl, _, rfl, _, rfl, .tup (ds.drop 1), ?_, .tup (ds.drop 1), _, fz_fz' (x := .val _) rfl ?_, _, _, rfl, ds, ds.drop 1, rfl, rfl, ?_⟩
      · show (if D.isFzs ds = true then some (D.tup (cutD ds (some 1) none)) else none) = _
        rw [cut1, if_pos (by have := D.nice_fz _ hd; rwa [D.isFz] at this)]
      · have h1 := D.nice_fz _ hd
        rw [D.isFz] at h1
        refine D.fz_of _ ?_
        rw [D.isFz, D.isFzs_eq] at *
        rw [List.all_eq_true] at h1 ⊢
        exact fun x hx => h1 x (List.mem_of_mem_drop hx)
      · rw [zip_tup]
        refine comp_map2 (f := fun a b => .bl (ltB a b)) _ (by decide) (Nat.le_trans (List.length_zip ▸ Nat.min_le_left _ _) hl) (fun p hp Q' hq => ?_) q
        obtain ⟨a, ha⟩ := hs p.1 (List.of_mem_zip hp).1
        obtain ⟨b, hb⟩ := hs p.2 (List.mem_of_mem_drop (List.of_mem_zip hp).2)
        rw [ha, hb] at hq ⊢
        exact ev_bin (f := ltD) (ev_var (d := .str a) rfl) (ev_var (d := .str b) rfl) rfl _ fun x hx => hq x _ (take_fz hx rfl)
  | opq => cases hd
  | _ => exact et_if (et_or (b := false) (et_not (et_tru (ev_isi (ev_var rfl) rfl))) fun z => absurd z (by decide)) (ev_retP ev_c fun _ => h)
end KW
set_option maxHeartbeats 1000000
/-! KT1: what is a keymap: exactly (effects, bindings, layers). -/
namespace KW
open PySem PySem.Spec L2
open PyProof.Rows hiding St

def isBlB : D → Bool
  | .bl _ => true
  | _ => false
def isStrB : D → Bool
  | .str _ => true
  | _ => false
def isTupB : D → Bool
  | .tup _ => true
  | _ => false
def inB (fs : List Str) (k : D) : Bool := (sDs fs).any fun z => z.eqv k
theorem getK_mem : ∀ {kvs : List (D × D)} {p : D × D}, (keysN kvs).Nodup → p ∈ kvs → getK kvs (kN p.1) = some p.2
  | [], _, _, h => nomatch h
  | q :: r, p, hn, h => by
    have hn : (kN q.1 :: keysN r).Nodup := hn
    rw [List.nodup_cons] at hn
    show (if kN q.1 = kN p.1 then some q.2 else getK r (kN p.1)) = _
    rcases List.mem_cons.mp h with z | z
    · subst z; exact if_pos rfl
    · rw [if_neg fun e => hn.1 (by rw [e]; exact List.mem_map.mpr ⟨p, z, rfl⟩), getK_mem hn.2 z]
theorem nice_dct {o : Bool} {kvs : List (D × D)} (h : (D.dct o kvs).nice = true) : o = false ∧ kvs.length ≤ sizeLine ∧ (keysN kvs).Nodup ∧ ∀ p ∈ kvs, keyOk p.1 = true ∧ D.flatEq p.1 = true ∧ D.nice p.1 = true ∧ D.nice p.2 = true := by
  rw [D.nice, Bool.and_eq_true, Bool.and_eq_true, Bool.and_eq_true, decide_eq_true_eq, decide_eq_true_eq, D.nicek_eq, List.all_eq_true] at h
  refine ⟨by simpa using h.1.1.1, h.1.1.2, h.1.2, fun p hp => ?_⟩
  have := h.2 p hp
  simp only [Bool.and_eq_true] at this
  exact ⟨this.1.1.1, this.1.1.2, this.1.2, this.2⟩
theorem flat_str {s : Str} (h : PyData.strOk s = true) : D.flatEq (.str s) = true := by
  show (true && PyData.strOk s && _) = true
  rw [h]; rfl
theorem in_tupS {fs : List Str} {k : D} (hf : ∀ s ∈ fs, PyData.strOk s = true) (hk : k.flatEq = true) : inO k (.tup (sDs fs)) = some (.bl (inB fs k)) := by
  have ha : (sDs fs).all D.flatEq = true := by
    rw [List.all_eq_true]
    intro x hx
    obtain ⟨s, hs, rfl⟩ := List.mem_map.mp hx
    exact flat_str (hf s hs)
  have hd : inD k (.tup (sDs fs)) = some (inB fs k) := by
    cases k <;> simp only [inD, hk, ha, Bool.and_self, if_true] <;> rfl
  unfold inO
  rw [hd]; rfl
def isEffB (fs : List Str) : D → Bool
  | .dct _ kvs => (kvs.map (·.1)).all (inB fs) && (kvs.map (·.1)).all fun k => match getK kvs (kN k) with
    | some v => isBlB v
    | none => false
  | _ => false
theorem ev_ixd {ρ : Env} {ta tb : TDE} {o : Bool} {kvs : List (D × D)} {k v : D} (ha : Ev ta ρ (.dct o kvs)) (hb : Ev tb ρ k) (hk : keyOk k = true) (g : getK kvs (kN k) = some v) (hv : v.isFz = true) : Ev (dBin ixD ta tb) ρ v := ev_bin ha hb (by
  obtain ⟨kk, e1, e2⟩ := keyOk_of hk
  show k.key?.bind (fun kk => if kk.depth ≤ 8 then (getK kvs kk).bind fun d => if d.isFz = true then some d else none else none) = _
  rw [e1]
  show (if kk.depth ≤ 8 then _ else _) = _
  rw [if_pos e2, ← kN_of e1, g]
  exact if_pos hv)
theorem isa_bool {v : D} {T : Ty} (h : v.ty = some T) : T.isa .bool = isBlB v := by
  cases v <;> cases h <;> rfl
theorem isa_tup {v : D} {T : Ty} (h : v.ty = some T) : T.isa .tuple = isTupB v := by
  cases v <;> cases h <;> rfl
theorem isa_str {v : D} {T : Ty} (h : v.ty = some T) : T.isa .str = isStrB v := by
  cases v <;> cases h <;> rfl
theorem is_effect_ok {fs : List Str} {d : D} {Q : D → Prop} (hf : ∀ s ∈ fs, PyData.strOk s = true) (hd : d.nice = true) (h : Q (.bl (isEffB fs d))) : F_is_effect [.tup (sDs fs), d] Q := by
  show rd_is_effect _ [some (.tup (sDs fs)), some d, none]
  unfold rd_is_effect
  cases d with
  | dct o kvs =>
    obtain ⟨rfl, hl, hn, hk⟩ := nice_dct hd
    have hz := fz_of_nice hd
    have hl' : (kvs.map (·.1)).length ≤ sizeLine := by rw [List.length_map]; exact hl
    refine et_if (et_or (et_not (et_tru (ev_isi (ev_var rfl) rfl))) fun _ => et_not (et_tru (ev_all (p := inB fs) (ei_iter (ev_var rfl) hz rfl) hl' rfl fun x hx => ?_))) ?_
    · obtain ⟨p, hp, rfl⟩ := List.mem_map.mp hx
      exact ev_bin (ev_var rfl) (ev_var rfl) (in_tupS hf (hk p hp).2.1)
    · have h : Q (.bl ((kvs.map (·.1)).all (inB fs) && (kvs.map (·.1)).all fun k => match getK kvs (kN k) with
        | some v => isBlB v
        | none => false)) := h
      cases hc : (kvs.map (·.1)).all (inB fs)
      · rw [hc] at h
        exact ev_retP ev_c fun _ => h
      · rw [hc] at h
        refine ev_retP (ev_all (p := fun k => match getK kvs (kN k) with
          | some v => isBlB v
          | none => false) (ei_iter (ev_var rfl) hz rfl) hl' rfl fun x hx => ?_) fun _ => h
        obtain ⟨p, hp, rfl⟩ := List.mem_map.mp hx
        have g := getK_mem hn hp
        obtain ⟨T, hT⟩ := D.nice_ty (hk p hp).2.2.2
        rw [g]
        show Ev _ _ (.bl (isBlB p.2))
        rw [← isa_bool hT]
        exact ev_isi (ev_ixd (ev_var rfl) (ev_var rfl) (hk p hp).1 g (D.nice_fz _ (hk p hp).2.2.2)) hT
  | opq => cases hd
  | _ => exact et_if (et_or (b := false) (et_not (et_tru (ev_isi (ev_var rfl) rfl))) fun z => absurd z (by decide)) (ev_retP ev_c fun _ => h)
def areCmdsB (fs : List Str) : D → Bool
  | .dct _ kvs => decide ((kvs.length : Int) ≤ 8) && (kvs.map (·.1)).all (areLetB 1 8) && (kvs.map (·.1)).all fun k => match getK kvs (kN k) with
    | some v => isEffB fs v
    | none => false
  | _ => false
theorem gt_le (a b : Int) : (!decide (a ≤ b)) = decide (b < a) := by
  by_cases h : a ≤ b
  · rw [decide_eq_true h, decide_eq_false (by omega)]; rfl
  · rw [decide_eq_false h, decide_eq_true (by omega)]; rfl
theorem are_commands_ok {fs : List Str} {d : D} {Q : D → Prop} (hf : ∀ s ∈ fs, PyData.strOk s = true) (hd : d.nice = true) (h : Q (.bl (areCmdsB fs d))) : F_are_commands [.tup (sDs fs), d] Q := by
  show rd_are_commands _ [some (.tup (sDs fs)), some d, none]
  unfold rd_are_commands
  cases d with
  | dct o kvs =>
    obtain ⟨rfl, hl, hn, hk⟩ := nice_dct hd
    have hz := fz_of_nice hd
    have hl' : (kvs.map (·.1)).length ≤ sizeLine := by rw [List.length_map]; exact hl
    refine et_if (et_or (et_not (et_tru (ev_isi (ev_var rfl) rfl))) fun _ => et_or (et_tst (ev_gt (ev_lenD (ev_var rfl)) ev_c)) fun _ => et_not (et_tru (ev_all (p := areLetB 1 8) (ei_iter (ev_var rfl) hz rfl) hl' rfl fun x hx => ?_))) ?_
    · obtain ⟨p, hp, rfl⟩ := List.mem_map.mp hx
      exact (evv_callU (ez_fz (ev_var rfl) (ez_fz ev_c (ez_fz ev_c ez_nil)) (fz_of_nice (hk p hp).2.2.1)) rfl fun Q q => are_letters_ok (hk p hp).2.2.1 q).ev
    · have h : Q (.bl (decide ((kvs.length : Int) ≤ 8) && (kvs.map (·.1)).all (areLetB 1 8) && (kvs.map (·.1)).all fun k => match getK kvs (kN k) with
        | some v => isEffB fs v
        | none => false)) := h
      show if (false || (decide (8 < (kvs.length : Int)) || !(kvs.map (·.1)).all (areLetB 1 8))) = true then _ else _
      rw [← gt_le, Bool.false_or, ← Bool.not_and]
      cases hc : decide ((kvs.length : Int) ≤ 8) && (kvs.map (·.1)).all (areLetB 1 8)
      · rw [hc] at h
        exact ev_retP ev_c fun _ => h
      · rw [hc] at h
        refine ev_retP (ev_all (p := fun k => match getK kvs (kN k) with
          | some v => isEffB fs v
          | none => false) (ei_iter (ev_var rfl) hz rfl) hl' rfl fun x hx => ?_) fun _ => h
        obtain ⟨p, hp, rfl⟩ := List.mem_map.mp hx
        have g := getK_mem hn hp
        rw [g]
        show Ev _ _ (.bl (isEffB fs p.2))
        exact (evv_callU (ez_fz (ev_var rfl) (ez_fz (ev_ixd (ev_var rfl) (ev_var rfl) (hk p hp).1 g (D.nice_fz _ (hk p hp).2.2.2)) ez_nil (fz_of_nice (hk p hp).2.2.2)) (fz_tupS fs)) rfl fun Q q => is_effect_ok hf (hk p hp).2.2.2 q).ev
  | opq => cases hd
  | _ => exact et_if (et_or (b := false) (et_not (et_tru (ev_isi (ev_var rfl) rfl))) fun z => absurd z (by decide)) (ev_retP ev_c fun _ => h)
end KW
set_option maxHeartbeats 1000000
/-! KT2: what is a keymap, a state: exactly. -/
namespace KW
open PySem PySem.Spec L2
open PyProof.Rows hiding St

/-! ### two fors, pure -/
theorem compN_pure {j : Nat} {te : TDE} {f : D → D} {ρ : Env} {Q : List D → Env → Prop} (hf : ∀ d, (f d).fz = f d) : ∀ (ds acc : List D) (ρ' : Env), ρ'.set j none = ρ → acc.length + ds.length ≤ sizeLine → (∀ b ∈ ds, Ev te (ρ.set j (some b)) (f b)) → Q (acc ++ ds.map f) ρ → compN (gN j) dYes te [j] Q ds acc ρ'
  | [], acc, ρ', e, _, _, q => by
    rw [compN, show wipeE ρ' [j] = ρ'.set j none from rfl, e]
    simpa using q
  | d :: ds, acc, ρ', e, hl, h, q => by
    rw [compN, show wipeE ρ' [j] = ρ'.set j none from rfl, e]
    dsimp only [gN, dYes]
    rw [if_pos rfl]
    rw [List.length_cons] at hl
    refine h d List.mem_cons_self _ fun x hx => ⟨f d, ρ.set j (some d), take_fz hx (hf d), by omega, ?_⟩
    refine compN_pure hf ds (acc ++ [f d]) _ ?_ (by rw [List.length_append, List.length_singleton]; omega) (fun b hb => h b (List.mem_cons_of_mem _ hb)) (by simpa using q)
    rw [List.set_set, ← e, List.set_set]
def its (d : D) : List D := (itemsD d).getD []
theorem compO_pure {i j : Nat} {te : TDE} {f : D → D} {ρ : Env} {Q : List D → Env → Prop} (hij : i ≠ j) (hf : ∀ d, (f d).fz = f d) (hi : i < ρ.length) (hn : ρ.getD i none = none) (hm : ρ.getD j none = none) :
    ∀ (ls acc : List D) (ρ' : Env), (ρ'.set j none).set i none = ρ → acc.length + (ls.flatMap its).length ≤ sizeLine → (∀ l ∈ ls, (itemsD l).isSome = true ∧ l.fz = l ∧ ∀ b ∈ its l, Ev te ((ρ.set i (some l)).set j (some b)) (f b)) → Q (acc ++ (ls.flatMap its).map f) ρ →
      compO (gN i) dYes (dIter (dVar i)) (gN j) dYes te [i, j] [j] Q ls acc ρ'
  | [], acc, ρ', e, _, _, q => by
    rw [compO, show wipeE ρ' [i, j] = (ρ'.set j none).set i none from rfl, e]
    simpa using q
  | l :: ls, acc, ρ', e, hl, h, q => by
    rw [compO, show wipeE ρ' [i, j] = (ρ'.set j none).set i none from rfl, e]
    dsimp only [gN, dYes]
    rw [if_pos rfl]
    obtain ⟨h1, h2, h3⟩ := h l List.mem_cons_self
    obtain ⟨ds, hds⟩ := Option.isSome_iff_exists.mp h1
    have eds : its l = ds := by unfold its; rw [hds]; rfl
    rw [eds] at h3
    rw [List.flatMap_cons, List.length_append, eds] at hl
    have gi : (ρ.set i (some l)).getD i none = some l := by
      rw [List.getD_eq_getElem?_getD, List.getElem?_set_self hi]; rfl
    refine ei_iter (ev_var gi) h2 hds _ ?_
    have e0 : (ρ.set i (some l)).set j none = ρ.set i (some l) := set_none (by
      rw [List.getD_eq_getElem?_getD, List.getElem?_set_ne hij, ← List.getD_eq_getElem?_getD]; exact hm)
    refine compN_pure (ρ := ρ.set i (some l)) hf ds acc _ e0 (by omega) h3 ?_
    refine compO_pure hij hf hi hn hm ls _ _ ?_ (by rw [List.length_append, List.length_map]; omega) (fun x hx => h x (List.mem_cons_of_mem _ hx)) (by rw [List.flatMap_cons, List.map_append, eds] at q; simpa using q)
    rw [e0, List.set_set]
    exact set_none hn
/-! ### bindings -/
def isBndB (fs : List Str) (cv : List (D × D)) : D → Bool
  | .tup [k, c, m] => areLetB 1 4 k && isEffB fs c && (isNone m || (isStrB m && (getK cv (kN m)).isSome))
  | _ => false
theorem ev_callN {ρ : Env} {n : Nat} {F : List D → (D → Prop) → Prop} {tz : TDZ} {ds : List D} {d : D} (h : Ez tz ρ ds) (hl : ds.length = n) (k : ∀ Q : D → Prop, Q d → F ds Q) : Ev (dCallU n F tz) ρ d := (evv_callU h hl k).ev
theorem in_dctS {s : Str} {o : Bool} {cv : List (D × D)} : inO (.str s) (.dct o cv) = some (.bl (getK cv (.text s)).isSome) := by
  have e : inD (.str s) (.dct o cv) = some (getK cv (.text s)).isSome := by
    show (if (NestedKey.text s).depth ≤ 8 then some (getK cv (.text s)).isSome else none) = _
    rw [if_pos (by simp [NestedKey.depth])]
  unfold inO
  rw [e]; rfl
theorem is_binding_ok {fs : List Str} {cv : List (D × D)} {d : D} {Q : D → Prop} (hf : ∀ s ∈ fs, PyData.strOk s = true) (hc : (D.dct false cv).nice = true) (hd : d.nice = true) (h : Q (.bl (isBndB fs cv d))) : F_is_binding [.tup (sDs fs), .dct false cv, d] Q := by
  show rd_is_binding _ [some (.tup (sDs fs)), some (.dct false cv), some d, none, none, none]
  unfold rd_is_binding
  cases d with
  | tup ds =>
    have hz := fz_of_nice hd
    obtain ⟨hl, hn⟩ := nice_tup hd
    refine et_if (et_or (et_not (et_tru (ev_isi (ev_var rfl) rfl))) fun _ => et_tst (ev_ne (ev_lenT (ev_var rfl)) ev_c)) ?_
    show if (false || !decide ((ds.length : Int) = 3)) = true then _ else _
    match ds, hn, h, hz with
    | [k, c, m], hn, h, hz =>
      rw [if_neg (by simp)]
      dsimp only [dNext]
      refine ⟨_, rfl, _, _, fz_fz' (x := .slot 2) rfl hz, [k, c, m], rfl, rfl, _, _, rfl, _, _, rfl, _, _, rfl, rfl, ?_⟩
      have nk := hn k (by simp); have nc := hn c (by simp); have nm := hn m (by simp)
      refine et_if (c := !areLetB 1 4 k || !isEffB fs c) (et_or (et_not (et_tru (ev_callN (ez_fz (ev_var rfl) (ez_fz ev_c (ez_fz ev_c ez_nil)) (fz_of_nice nk)) rfl fun Q q => are_letters_ok nk q))) fun _ => et_not (et_tru (ev_callN (ez_fz (ev_var rfl) (ez_fz (ev_var rfl) ez_nil (fz_of_nice nc)) (fz_tupS fs)) rfl fun Q q => is_effect_ok hf nc q))) ?_
      have h : Q (.bl (areLetB 1 4 k && isEffB fs c && (isNone m || (isStrB m && (getK cv (kN m)).isSome)))) := h
      rw [← Bool.not_and]
      cases e : areLetB 1 4 k && isEffB fs c
      · rw [e] at h
        exact ev_retP ev_c fun _ => h
      · rw [e] at h
        obtain ⟨T, hT⟩ := D.nice_ty nm
        refine ev_retP (ev_orV (a := isNone m) (ev_bin (f := isD) (ev_var (d := m) rfl) ev_c ?_) fun _ => ev_andV (a := isStrB m) (by rw [← isa_str hT]; exact ev_isi (ev_var rfl) hT) fun hs => ?_) fun _ => h
        · cases m <;> first | rfl | cases hT
        · cases m with
          | str s => exact ev_bin (ev_var rfl) (ev_var rfl) in_dctS
          | _ => cases hs
    | [], _, h, _ => exact ev_retP ev_c fun _ => h
    | [_], _, h, _ => exact ev_retP ev_c fun _ => h
    | [_, _], _, h, _ => exact ev_retP ev_c fun _ => h
    | a :: b :: c :: e :: r, _, h, _ =>
      rw [if_pos (by
        rw [Bool.false_or, Bool.not_eq_true', decide_eq_false_iff_not]
        simp only [List.length_cons]
        omega)]
      exact ev_retP ev_c fun _ => h
  | opq => cases hd
  | _ => exact et_if (et_or (b := false) (et_not (et_tru (ev_isi (ev_var rfl) rfl))) fun z => absurd z (by decide)) (ev_retP ev_c fun _ => h)
/-! ### layers -/
def lenI : D → Int
  | .tup ds => ds.length
  | _ => 0
def isLaysB (fs : List Str) (cv : List (D × D)) : D → Bool
  | .tup ls => (decide (1 ≤ (ls.length : Int)) && decide ((ls.length : Int) ≤ 4)) && ls.all isTupB && decide ((ls.map lenI).sum ≤ 16) && (ls.flatMap its).all (isBndB fs cv)
  | _ => false
theorem sum_len : ∀ ls : List D, ls.all isTupB = true → (ls.map lenI).sum = ((ls.flatMap its).length : Int)
  | [], _ => rfl
  | l :: ls, h => by
    rw [List.all_cons, Bool.and_eq_true] at h
    rw [List.map_cons, List.sum_cons, List.flatMap_cons, List.length_append, sum_len ls h.2]
    cases l with
    | tup ds => show (ds.length : Int) + _ = (((its (.tup ds)).length + _ : Nat) : Int); rw [show its (.tup ds) = ds from rfl]; omega
    | _ => cases h.1
theorem are_layers_ok {fs : List Str} {cv : List (D × D)} {d : D} {Q : D → Prop} (hf : ∀ s ∈ fs, PyData.strOk s = true) (hc : (D.dct false cv).nice = true) (hd : d.nice = true) (h : Q (.bl (isLaysB fs cv d))) : F_are_layers [.tup (sDs fs), .dct false cv, d] Q := by
  show rd_are_layers _ [some (.tup (sDs fs)), some (.dct false cv), some d, none, none]
  unfold rd_are_layers
  cases d with
  | tup ls =>
    have hz := fz_of_nice hd
    obtain ⟨hl, hn⟩ := nice_tup hd
    have h : Q (.bl ((decide (1 ≤ (ls.length : Int)) && decide ((ls.length : Int) ≤ 4)) && ls.all isTupB && decide ((ls.map lenI).sum ≤ 16) && (ls.flatMap its).all (isBndB fs cv))) := h
    refine et_if (et_or (et_not (et_tru (ev_isi (ev_var rfl) rfl))) fun _ => et_not (et_tst (ev_chain ev_c (ev_lenT (ev_var rfl)) ev_c))) ?_
    show if (false || !(decide (1 ≤ (ls.length : Int)) && decide ((ls.length : Int) ≤ 4))) = true then _ else _
    cases e1 : decide (1 ≤ (ls.length : Int)) && decide ((ls.length : Int) ≤ 4)
    · rw [e1] at h
      exact ev_retP ev_c fun _ => h
    rw [e1] at h
    rw [if_neg (by decide)]
    dsimp only [dNext]
    refine et_if (c := !ls.all isTupB || !decide ((ls.map lenI).sum ≤ 16)) (et_or (et_not (et_tru (ev_all (p := isTupB) (ei_iter (ev_var rfl) hz rfl) hl rfl fun x hx => ?_))) fun ht => ?_) ?_
    · obtain ⟨T, hT⟩ := D.nice_ty (hn x hx)
      rw [← isa_tup hT]
      exact ev_isi (ev_var rfl) hT
    · rw [gt_le]
      refine et_tst (ev_gt (ev_sum (p := lenI) (ei_iter (ev_var rfl) hz rfl) hl rfl fun x hx => ?_) ev_c)
      have hx2 := List.all_eq_true.mp (show ls.all isTupB = true by simpa using ht) x hx
      cases x with
      | tup ds => exact ev_lenT (ev_var rfl)
      | _ => cases hx2
    · rw [← Bool.not_and]
      cases e2 : ls.all isTupB && decide ((ls.map lenI).sum ≤ 16)
      · have e3 : (true && ls.all isTupB && decide ((ls.map lenI).sum ≤ 16)) = false := by rw [Bool.true_and]; exact e2
        rw [e3] at h
        exact ev_retP ev_c fun _ => h
      · have e3 : (true && ls.all isTupB && decide ((ls.map lenI).sum ≤ 16)) = true := by rw [Bool.true_and]; exact e2
        rw [e3] at h
        rw [Bool.and_eq_true, decide_eq_true_eq] at e2
        have hs := sum_len ls e2.1
        have h16 : 16 < sizeLine := by decide
        rw [if_neg (by decide)]
        dsimp only [dNext]
        rw [Bool.true_and] at h
        refine ev_retP (d := .bl ((ls.flatMap its).all (isBndB fs cv))) (evv_callc (d := .lst true ((ls.flatMap its).map fun x => .bl (isBndB fs cv x))) (fun Q' q => ?_) (allD_map _ _)).ev fun _ => h
        refine ei_iter (ev_var rfl) hz rfl _ ?_
        refine compO_pure (f := fun x => .bl (isBndB fs cv x)) (ρ := [some (.tup (sDs fs)), some (.dct false cv), some (.tup ls), none, none]) (by decide) (fun _ => rfl) (by show 3 < 5; decide) rfl rfl ls [] _ rfl (by have := e2.2; rw [List.length_nil]; omega) (fun l hl2 => ?_) (by simpa using q)
        have hx2 := List.all_eq_true.mp e2.1 l hl2
        cases l with
        | tup ds =>
          refine ⟨rfl, fz_of_nice (hn _ hl2), fun b hb => ?_⟩
          have nb := (nice_tup (hn _ hl2)).2 b hb
          exact ev_callN (ez_fz (ev_var rfl) (ez_fz (ev_var rfl) (ez_fz (ev_var rfl) ez_nil (fz_of_nice nb)) (fz_of_nice hc)) (fz_tupS fs)) rfl fun Q q => is_binding_ok hf hc nb q
        | _ => cases hx2
  | opq => cases hd
  | _ => exact et_if (et_or (b := false) (et_not (et_tru (ev_isi (ev_var rfl) rfl))) fun z => absurd z (by decide)) (ev_retP ev_c fun _ => h)
/-! ### keymaps -/
def strsOf : D → List Str
  | .tup ds => ds.filterMap fun d => match d with
    | .str s => some s
    | _ => none
  | _ => []
def cvOf : D → List (D × D)
  | .dct _ kvs => kvs
  | _ => []
def isMapB : D → Bool
  | .tup [f, o, c, l, w] => areNamesB 3 f && areNamesB 3 o && (its o).all (inB (strsOf f)) && areCmdsB (strsOf f) c && isLaysB (strsOf f) (cvOf c) l && isIntB 1 1000 w
  | _ => false
theorem let_ok {s : Str} (h : isLets s = true) : PyData.strOk s = true := by
  have hL : ∀ c ∈ LETS.cps.toList, c < 0x110000 := by decide +kernel
  unfold PyData.strOk
  rw [Array.all_eq_true]
  intro i hi
  rw [decide_eq_true_eq]
  refine hL _ ?_
  have := List.all_eq_true.mp h s.cps[i] (by simp)
  exact of_decide_eq_true this
theorem names_strs : ∀ {ds : List D}, ds.all (areLetB 1 8) = true → ds = sDs (strsOf (.tup ds)) ∧ ∀ s ∈ strsOf (.tup ds), isLets s = true
  | [], _ => ⟨rfl, fun _ z => nomatch z⟩
  | d :: ds, h => by
    rw [List.all_cons, Bool.and_eq_true] at h
    obtain ⟨s, rfl⟩ := letB_str h.1
    obtain ⟨e1, e2⟩ := names_strs h.2
    refine ⟨?_, fun t ht => ?_⟩
    · show D.str s :: ds = D.str s :: sDs (strsOf (.tup ds))
      rw [← e1]
    · have ht : t ∈ s :: strsOf (.tup ds) := ht
      rcases List.mem_cons.mp ht with z | z
      · have h1 : ((decide (1 ≤ (s.length : Int)) && decide ((s.length : Int) ≤ 8)) && isLets s) = true := h.1
        rw [Bool.and_eq_true] at h1
        rw [z]; exact h1.2
      · exact e2 t z
theorem names_of {m : Int} {f : D} (h : areNamesB m f = true) : f = .tup (sDs (strsOf f)) ∧ (∀ s ∈ strsOf f, PyData.strOk s = true) := by
  cases f with
  | tup ds =>
    have h1 : (decide ((ds.length : Int) ≤ m) && ds.all (areLetB 1 8) && (ds.zip (ds.drop 1)).all fun p => ltB p.1 p.2) = true := h
    rw [Bool.and_eq_true, Bool.and_eq_true] at h1
    obtain ⟨e1, e2⟩ := names_strs h1.1.2
    exact ⟨congrArg D.tup e1, fun s hs => let_ok (e2 s hs)⟩
  | _ => cases h
theorem is_map_ok {d : D} {Q : D → Prop} (hd : d.nice = true) (h : Q (.bl (isMapB d))) : F_is_map [d] Q := by
  show rd_is_map _ [some d, none, none, none, none, none, none]
  unfold rd_is_map
  cases d with
  | tup ds =>
    have hz := fz_of_nice hd
    obtain ⟨hl, hn⟩ := nice_tup hd
    refine et_if (et_or (et_not (et_tru (ev_isi (ev_var rfl) rfl))) fun _ => et_tst (ev_ne (ev_lenT (ev_var rfl)) ev_c)) ?_
    show if (false || !decide ((ds.length : Int) = 5)) = true then _ else _
    match ds, hn, h, hz with
    | [f, o, c, l, w], hn, h, hz =>
      rw [if_neg (by simp)]
      dsimp only [dNext]
      refine ⟨_, rfl, _, _, fz_fz' (x := .slot 0) rfl hz, [f, o, c, l, w], rfl, rfl, _, _, rfl, _, _, rfl, _, _, rfl, _, _, rfl, _, _, rfl, rfl, ?_⟩
      have nf := hn f (by simp); have no := hn o (by simp); have nc := hn c (by simp); have nl := hn l (by simp); have nw := hn w (by simp)
      have h : Q (.bl (areNamesB 3 f && areNamesB 3 o && (its o).all (inB (strsOf f)) && areCmdsB (strsOf f) c && isLaysB (strsOf f) (cvOf c) l && isIntB 1 1000 w)) := h
      refine et_if (c := !areNamesB 3 f || (!areNamesB 3 o || !(its o).all (inB (strsOf f)))) (et_or (et_not (et_tru (ev_callN (ez_fz (ev_var rfl) (ez_fz ev_c ez_nil) (fz_of_nice nf)) rfl fun Q q => are_names_ok nf q))) fun hf => et_or (et_not (et_tru (ev_callN (ez_fz (ev_var rfl) (ez_fz ev_c ez_nil) (fz_of_nice no)) rfl fun Q q => are_names_ok no q))) fun ho => et_not (et_tru ?_)) ?_
      · obtain ⟨ef, sf⟩ := names_of (m := 3) (f := f) (by simpa using hf)
        obtain ⟨eo, so⟩ := names_of (m := 3) (f := o) (by simpa using ho)
        have ei : itemsD o = some (its o) := by rw [eo]; rfl
        have lo : (its o).length ≤ sizeLine := by
          have := (nice_tup (ds := sDs (strsOf o)) (by rw [← eo]; exact no)).1
          rw [eo]; exact this
        refine ev_all (p := inB (strsOf f)) (ei_iter (ev_var rfl) (fz_of_nice no) ei) lo rfl fun x hx => ?_
        rw [eo] at hx
        obtain ⟨s, hs, rfl⟩ := List.mem_map.mp (show x ∈ sDs (strsOf o) from hx)
        exact ev_bin (ev_var rfl) (ev_var (d := f) rfl) (by have := in_tupS (k := .str s) sf (flat_str (so s hs)); rw [← ef] at this; exact this)
      · rw [← Bool.not_and, ← Bool.not_and]
        cases e : areNamesB 3 f && (areNamesB 3 o && (its o).all (inB (strsOf f)))
        · rw [← Bool.and_assoc] at e
          rw [e] at h
          exact ev_retP ev_c fun _ => h
        · obtain ⟨ef, sf⟩ := names_of (m := 3) (f := f) (by rw [Bool.and_eq_true] at e; exact e.1)
          rw [← Bool.and_assoc] at e
          rw [e] at h
          rw [if_neg (by decide)]
          dsimp only [dNext]
          refine ev_retP (d := .bl (areCmdsB (strsOf f) c && (isLaysB (strsOf f) (cvOf c) l && isIntB 1 1000 w))) (ev_andV ?_ fun hc => ev_andV ?_ fun _ => ?_) fun _ => by
            have h2 : Q (.bl (true && areCmdsB (strsOf f) c && isLaysB (strsOf f) (cvOf c) l && isIntB 1 1000 w)) := h
            rw [Bool.true_and, Bool.and_assoc] at h2
            exact h2
          · exact ev_callN (ds := [.tup (sDs (strsOf f)), c]) (ez_fz (ev_var (congrArg some ef)) (ez_fz (ev_var rfl) ez_nil (fz_of_nice nc)) (fz_tupS _)) rfl fun Q q => are_commands_ok sf nc q
          · have ec : c = .dct false (cvOf c) := by
              cases c with
              | dct o kvs => rw [(nice_dct nc).1]; rfl
              | _ => cases hc
            refine ev_callN (ds := [.tup (sDs (strsOf f)), .dct false (cvOf c), l]) (ez_fz (ev_var (congrArg some ef)) (ez_fz (ev_var (congrArg some ec)) (ez_fz (ev_var rfl) ez_nil (fz_of_nice nl)) (by rw [← ec]; exact fz_of_nice nc)) (fz_tupS _)) rfl fun Q q => are_layers_ok sf (by rw [← ec]; exact nc) nl q
          · exact ev_callN (ez_fz (ev_var rfl) (ez_fz ev_c (ez_fz ev_c ez_nil)) (fz_of_nice nw)) rfl fun Q q => is_integer_ok nw q
    | [], _, h, _ => exact ev_retP ev_c fun _ => h
    | [_], _, h, _ => exact ev_retP ev_c fun _ => h
    | [_, _], _, h, _ => exact ev_retP ev_c fun _ => h
    | [_, _, _], _, h, _ => exact ev_retP ev_c fun _ => h
    | [_, _, _, _], _, h, _ => exact ev_retP ev_c fun _ => h
    | a :: b :: c :: e :: f :: g :: r, _, h, _ =>
      rw [if_pos (by
        rw [Bool.false_or, Bool.not_eq_true', decide_eq_false_iff_not]
        simp only [List.length_cons]
        omega)]
      exact ev_retP ev_c fun _ => h
  | opq => cases hd
  | _ => exact et_if (et_or (b := false) (et_not (et_tru (ev_isi (ev_var rfl) rfl))) fun z => absurd z (by decide)) (ev_retP ev_c fun _ => h)
/-! ### states -/
def hasFormB (n : Nat) : D → Bool
  | .tup ds => decide (ds.length = n) && ds.all isBlB
  | _ => false
theorem has_form_ok {k d : D} {ks fs : List D} {Q : D → Prop} (hk : k.nice = true) (ek : k = .tup ks) (e0 : ks[0]? = some (.tup fs)) (hd : d.nice = true) (h : Q (.bl (hasFormB fs.length d))) : F_has_form [k, d] Q := by
  subst ek
  show rd_has_form _ [some (.tup ks), some d, none]
  unfold rd_has_form
  cases d with
  | tup ds =>
    have hz := fz_of_nice hd
    obtain ⟨hl, hn⟩ := nice_tup hd
    obtain ⟨_, hkn⟩ := nice_tup hk
    have e0' : atI ks 0 = some (.tup fs) := by
      have := atI_nat (j := 0) e0
      exact this
    have nf := hkn _ (List.mem_of_getElem? e0)
    refine et_if (et_or (et_not (et_tru (ev_isi (ev_var rfl) rfl))) fun _ => et_tst (ev_ne (ev_lenT (ev_var rfl)) (ev_lenT (ev_ixt (ev_var rfl) ev_c e0' (D.nice_fz _ nf))))) ?_
    show if (false || !decide ((ds.length : Int) = (fs.length : Int))) = true then _ else _
    have h : Q (.bl (decide (ds.length = fs.length) && ds.all isBlB)) := h
    by_cases e : ds.length = fs.length
    · rw [if_neg (by rw [e]; simp)]
      rw [decide_eq_true e] at h
      refine ev_retP (ev_all (p := isBlB) (ei_iter (ev_var rfl) hz rfl) hl rfl fun x hx => ?_) fun _ => h
      obtain ⟨T, hT⟩ := D.nice_ty (hn x hx)
      rw [← isa_bool hT]
      exact ev_isi (ev_var rfl) hT
    · rw [if_pos (by rw [Bool.false_or, Bool.not_eq_true', decide_eq_false_iff_not]; omega)]
      rw [decide_eq_false e] at h
      exact ev_retP ev_c fun _ => h
  | opq => cases hd
  | _ => exact et_if (et_or (b := false) (et_not (et_tru (ev_isi (ev_var rfl) rfl))) fun z => absurd z (by decide)) (ev_retP ev_c fun _ => h)
theorem need_map_ok {k : D} {Q : D → Prop} (hk : k.nice = true) (hm : isMapB k = true) (h : Q .non) : F_need_map [k] Q := by
  show rd_need_map _ [some k]
  unfold rd_need_map
  refine et_if (et_not (et_tru (b := true) (ev_callN (ez_fz (ev_var rfl) ez_nil (fz_of_nice hk)) rfl fun Q q => is_map_ok hk (by rw [hm]; exact q)))) ?_
  exact h
theorem is_state_ok {k d : D} {ks fs : List D} {Q : D → Prop} (hk : k.nice = true) (hm : isMapB k = true) (ek : k = .tup ks) (e0 : ks[0]? = some (.tup fs)) (hd : d.nice = true) (h : Q (.bl (hasFormB fs.length d))) : F_is_state [k, d] Q := by
  show rd_is_state _ [some k, some d]
  unfold rd_is_state
  dsimp only [dSeq, dDrop]
  refine (evv_callU (d := .non) (ez_fz (ev_var rfl) ez_nil (fz_of_nice hk)) rfl fun Q q => need_map_ok hk hm q) _ ?_
  exact ev_retP (ev_callN (ez_fz (ev_var rfl) (ez_fz (ev_var rfl) ez_nil (fz_of_nice hd)) (fz_of_nice hk)) rfl fun Q q => has_form_ok hk ek e0 hd q) fun _ => h
end KW
set_option maxHeartbeats 1000000
/-! KT3: what repr gives of values is not too long; keymaps are nice. -/
namespace KW
open PySem PySem.Spec L2
open PyProof.Rows hiding St

/-- repr of d is there: its depth, its length -/
structure Sh (n w : Nat) (d : D) : Prop where
  pl : d.plain = true
  sh : d.py.showable = true
  dp : d.py.depth ≤ n
  ln : d.py.shown.length ≤ w
theorem Sh.ok {n w : Nat} {d : D} (h : Sh n w d) (hn : n ≤ 64) (hw : w ≤ sizeLine) : reprOk d = true := by
  unfold reprOk
  rw [h.pl, h.sh, decide_eq_true (Nat.le_trans h.dp hn), decide_eq_true (show d.shown.length ≤ sizeLine from Nat.le_trans h.ln hw)]; rfl
theorem Sh.mono {n w n' w' : Nat} {d : D} (h : Sh n w d) (hn : n ≤ n') (hw : w ≤ w') : Sh n' w' d := ⟨h.pl, h.sh, Nat.le_trans h.dp hn, Nat.le_trans h.ln hw⟩
theorem Sh.non : Sh 0 4 .non := ⟨rfl, rfl, Nat.le_refl _, by show ("None" : Str).length ≤ 4; decide +kernel⟩
theorem Sh.bl (b : Bool) : Sh 0 5 (.bl b) := ⟨rfl, rfl, Nat.le_refl _, by cases b <;> (show Str.length _ ≤ 5) <;> decide +kernel⟩
theorem Sh.int {i : Int} (h : i.natAbs.log2 < 1920) : Sh 0 1921 (.int i) := ⟨rfl, decide_eq_true h, Nat.le_refl _, by
  show (Str.ofString (toString i)).length ≤ 1921
  rw [PySem.ofString_length]
  exact int_text_length_le (by decide) h⟩
theorem Sh.str {s : Str} {m : Nat} (h : PyData.strOk s = true) (hm : s.length ≤ m) : Sh 0 (10 * m + 2) (.str s) := ⟨rfl, rfl, Nat.le_refl _, by
  have h2 := StrLaws.reprText_len s fun c hc => by
    unfold PyData.strOk at h
    rw [Array.all_eq_true'] at h
    have := of_decide_eq_true (h c (by simpa using hc))
    have : (0x110000 : Nat) < 16 ^ 8 := by decide
    omega
  show (reprText s).length ≤ _
  omega⟩
theorem join_len {w : Nat} : ∀ {ts : List Str}, (∀ t ∈ ts, t.length ≤ w) → (Str.join ", " ts).length ≤ ts.length * (w + 2)
  | [], _ => Nat.zero_le _
  | [x], h => by
    have := h x (by simp)
    show x.length ≤ _
    simp; omega
  | x :: y :: r, h => by
    have h1 := h x (by simp)
    have h2 := join_len (ts := y :: r) fun t ht => h t (List.mem_cons_of_mem _ ht)
    show (x ++ (", " : Str) ++ Str.join ", " (y :: r)).length ≤ _
    rw [strLen_append, strLen_append, show (", " : Str).length = 2 by decide +kernel]
    have e : (x :: y :: r).length * (w + 2) = (w + 2) + (y :: r).length * (w + 2) := by
      simp only [List.length_cons]; rw [Nat.add_mul, Nat.add_mul, Nat.one_mul]; omega
    omega
theorem from_len {w : Nat} : ∀ {ts : List Str} {k : Nat} {acc : Str}, (∀ t ∈ ts, t.length ≤ w) → (textFrom k acc ts).length ≤ acc.length + ts.length * (w + 2)
  | [], k, acc, _ => by show acc.length ≤ _; simp
  | t :: ts, k, acc, h => by
    have h1 := h t (by simp)
    have h2 := from_len (ts := ts) (k := k + 1) (acc := acc ++ (if k > 0 then ", " else "" : String) ++ t) fun t ht => h t (List.mem_cons_of_mem _ ht)
    have e : (acc ++ (if k > 0 then ", " else "" : String) ++ t).length ≤ acc.length + 2 + t.length := by
      rw [strLen_append, strLen_append]
      split
      · rw [show (Str.ofString ", ").length = 2 by decide +kernel]; exact Nat.le_refl _
      · rw [show (Str.ofString "").length = 0 by decide +kernel]; omega
    show (textFrom (k + 1) _ ts).length ≤ _
    have e2 : (t :: ts).length * (w + 2) = (w + 2) + ts.length * (w + 2) := by
      simp only [List.length_cons]; rw [Nat.add_mul, Nat.one_mul]; omega
    omega
theorem mul_mono {a b w : Nat} (h : a ≤ b) : a * w ≤ b * w := Nat.mul_le_mul_right w h
theorem pys_mem {x : PyData} : ∀ {ds : List D}, x ∈ D.pys ds → ∃ d ∈ ds, x = d.py := fun {ds} h => by
  rw [D.pys_eq] at h
  obtain ⟨d, hd, e⟩ := List.mem_map.mp h
  exact ⟨d, hd, e.symm⟩
theorem shownAll_map : ∀ xs : List PyData, PyData.shownAll xs = xs.map PyData.shown
  | [] => rfl
  | x :: xs => by rw [PyData.shownAll, shownAll_map xs]; rfl
theorem showableAll_all : ∀ xs : List PyData, PyData.showableAll xs = xs.all PyData.showable
  | [] => rfl
  | x :: xs => by rw [PyData.showableAll, showableAll_all xs]; rfl
theorem depthAll_le {n : Nat} : ∀ {xs : List PyData}, (∀ x ∈ xs, x.depth ≤ n) → PyData.depthAll xs ≤ n
  | [], _ => Nat.zero_le _
  | x :: xs, h => by
    rw [PyData.depthAll]
    exact Nat.max_le.mpr ⟨h x (by simp), depthAll_le fun y hy => h y (List.mem_cons_of_mem _ hy)⟩
section
variable {n w m : Nat} {ds : List D}
theorem Sh.parts (h : ∀ x ∈ ds, Sh n w x) : D.plains ds = true ∧ PyData.showableAll (D.pys ds) = true ∧ PyData.depthAll (D.pys ds) ≤ n ∧ ∀ t ∈ PyData.shownAll (D.pys ds), t.length ≤ w := by
  refine ⟨?_, ?_, ?_, ?_⟩
  · rw [D.plains_eq, List.all_eq_true]; exact fun x hx => (h x hx).pl
  · rw [showableAll_all, List.all_eq_true]
    intro x hx
    obtain ⟨d, hd, rfl⟩ := pys_mem hx
    exact (h d hd).sh
  · refine depthAll_le fun x hx => ?_
    obtain ⟨d, hd, rfl⟩ := pys_mem hx
    exact (h d hd).dp
  · intro t ht
    rw [shownAll_map] at ht
    obtain ⟨x, hx, rfl⟩ := List.mem_map.mp ht
    obtain ⟨d, hd, rfl⟩ := pys_mem hx
    exact (h d hd).ln
theorem shown_len : (PyData.shownAll (D.pys ds)).length = ds.length := by rw [shownAll_map, D.pys_eq, List.length_map, List.length_map]
theorem Sh.tup (h : ∀ x ∈ ds, Sh n w x) (hl : ds.length ≤ m) : Sh (n + 1) (m * (w + 2) + 4) (.tup ds) := by
  obtain ⟨h1, h2, h3, h4⟩ := Sh.parts h
  refine ⟨by rw [D.plain]; exact h1, by rw [D.py, PyData.showable]; exact h2, by rw [D.py, PyData.depth]; omega, ?_⟩
  rw [D.py, PyData.shown]
  unfold tupleText
  have e := join_len h4
  rw [shown_len] at e
  have e2 := mul_mono (w := w + 2) hl
  rw [strLen_append, strLen_append, show (Str.ofString "(").length = 1 by decide +kernel]
  have e3 : ∀ c : Bool, (Str.ofString (if c = true then ",)" else ")")).length ≤ 2 := fun c => by cases c <;> decide +kernel
  have e4 := e3 ((PyData.shownAll (D.pys ds)).length == 1)
  omega
theorem Sh.lst {o : Bool} (h : ∀ x ∈ ds, Sh n w x) (hl : ds.length ≤ m) : Sh (n + 1) (m * (w + 2) + 4) (.lst o ds) := by
  obtain ⟨h1, h2, h3, h4⟩ := Sh.parts h
  refine ⟨by rw [D.plain]; exact h1, by rw [D.py, PyData.showable]; exact h2, by rw [D.py, PyData.depth]; omega, ?_⟩
  rw [D.py, PyData.shown]
  unfold listText
  have e := from_len (k := 0) (acc := "[") h4
  rw [shown_len, show (Str.ofString "[").length = 1 by decide +kernel] at e
  have e2 := mul_mono (w := w + 2) hl
  rw [strLen_append, show (Str.ofString "]").length = 1 by decide +kernel]
  omega
theorem Sh.dct {o : Bool} {kvs : List (D × D)} (h : ∀ p ∈ kvs, Sh n w p.1 ∧ Sh n w p.2) (hl : kvs.length ≤ m) : Sh (n + 1) (m * (2 * w + 4) + 4) (.dct o kvs) := by
  have hp : D.plaink kvs = true := by
    have : ∀ kvs : List (D × D), (∀ p ∈ kvs, Sh n w p.1 ∧ Sh n w p.2) → D.plaink kvs = true := fun kvs => by
      induction kvs with
      | nil => exact fun _ => rfl
      | cons p r ih =>
        intro h
        rw [D.plaink, (h p (by simp)).1.pl, (h p (by simp)).2.pl, ih fun q hq => h q (List.mem_cons_of_mem _ hq)]; rfl
    exact this kvs h
  have hs : ∀ kvs : List (D × D), (∀ p ∈ kvs, Sh n w p.1 ∧ Sh n w p.2) → PyData.showableKv (D.pyk kvs) = true ∧ PyData.depthKv (D.pyk kvs) ≤ n ∧ (PyData.shownKv (D.pyk kvs)).length = kvs.length ∧ ∀ t ∈ PyData.shownKv (D.pyk kvs), t.length ≤ 2 * w + 2 := fun kvs => by
    induction kvs with
    | nil => exact fun _ => ⟨rfl, Nat.zero_le _, rfl, fun _ z => nomatch z⟩
    | cons p r ih =>
      intro h
      obtain ⟨i1, i2, i3, i4⟩ := ih fun q hq => h q (List.mem_cons_of_mem _ hq)
      obtain ⟨a, b⟩ := h p (by simp)
      refine ⟨?_, ?_, ?_, ?_⟩
      · rw [D.pyk, PyData.showableKv, a.sh, b.sh, i1]; rfl
      · rw [D.pyk, PyData.depthKv]
        exact Nat.max_le.mpr ⟨Nat.max_le.mpr ⟨a.dp, b.dp⟩, i2⟩
      · rw [D.pyk, PyData.shownKv, List.length_cons, i3]; rfl
      · intro t ht
        rw [D.pyk, PyData.shownKv] at ht
        rcases List.mem_cons.mp ht with z | z
        · rw [z, strLen_append, strLen_append, show (Str.ofString ": ").length = 2 by decide +kernel]
          have := a.ln; have := b.ln
          omega
        · exact i4 t z
  obtain ⟨h2, h3, h5, h4⟩ := hs kvs h
  refine ⟨by rw [D.plain]; exact hp, by rw [D.py, PyData.showable]; exact h2, by rw [D.py, PyData.depth]; omega, ?_⟩
  rw [D.py, PyData.shown]
  unfold dictText
  have e := join_len h4
  rw [h5] at e
  have e2 := mul_mono (w := 2 * w + 2 + 2) hl
  rw [show 2 * w + 2 + 2 = 2 * w + 4 by omega] at e e2
  rw [strLen_append, strLen_append, show (Str.ofString "{").length = 1 by decide +kernel, show (Str.ofString "}").length = 1 by decide +kernel]
  omega
end
end KW
set_option maxHeartbeats 1000000
/-! KT4: keymaps that are well said are keymaps, nice, and shown. -/
namespace KW
open PySem PySem.Spec L2
open PyProof.Rows hiding St

theorem name_of {s : Str} (h : isName s = true) : 1 ≤ s.length ∧ s.length ≤ 8 ∧ isLets s = true ∧ PyData.strOk s = true := by
  unfold isName at h
  simp only [Bool.and_eq_true, decide_eq_true_eq] at h
  exact ⟨h.1.1, h.1.2, h.2, let_ok h.2⟩
theorem nice_of_str {s : Str} {m : Nat} (h : PyData.strOk s = true) (hm : s.length ≤ m) (hs : m ≤ sizeLine := by decide) : (D.str s).nice = true := by
  rw [D.nice, h, decide_eq_true (Nat.le_trans hm hs)]; rfl
theorem nice_tup_of {ds : List D} (hl : ds.length ≤ sizeLine) (h : ∀ d ∈ ds, d.nice = true) : (D.tup ds).nice = true := by
  rw [D.nice, decide_eq_true hl, D.nices_eq, List.all_eq_true.mpr h]; rfl
theorem nice_lst_of {ds : List D} (hl : ds.length ≤ sizeLine) (h : ∀ d ∈ ds, d.nice = true) : (D.lst false ds).nice = true := by
  rw [D.nice, decide_eq_true hl, D.nices_eq, List.all_eq_true.mpr h]; rfl
theorem nice_sDs {l : List Str} (hl : l.length ≤ sizeLine) (h : ∀ s ∈ l, isName s = true) : (D.tup (sDs l)).nice = true :=
  nice_tup_of (by rw [List.length_map]; exact hl) fun d hd => by
    obtain ⟨s, hs, rfl⟩ := List.mem_map.mp hd
    exact nice_of_str (name_of (h s hs)).2.2.2 (name_of (h s hs)).2.1
/-- a dict by texts -/
theorem nice_dctS {α : Type} {l : List (Str × α)} {f : α → D} (hl : l.length ≤ sizeLine) (hn : (l.map (·.1)).Nodup) (hk : ∀ p ∈ l, PyData.strOk p.1 = true ∧ p.1.length ≤ 8) (hv : ∀ p ∈ l, (f p.2).nice = true) : (D.dct false (l.map fun p => (.str p.1, f p.2))).nice = true := by
  have hu : (keysN (l.map fun p => ((.str p.1, f p.2) : D × D))).Nodup := by
    unfold keysN
    rw [List.map_map]
    have e : ((fun p : D × D => kN p.1) ∘ fun p : Str × α => ((D.str p.1, f p.2) : D × D)) = (fun s => NestedKey.text s) ∘ fun p : Str × α => p.1 := rfl
    rw [e, ← List.map_map]
    exact List.pairwise_map.mpr (hn.imp fun h z => h (NestedKey.text.inj z))
  rw [D.nice, decide_eq_true (show _ ≤ sizeLine by rw [List.length_map]; exact hl), decide_eq_true hu, D.nicek_eq]
  simp only [Bool.not_false, Bool.true_and]
  rw [List.all_eq_true]
  intro q hq
  obtain ⟨p, hp, rfl⟩ := List.mem_map.mp hq
  obtain ⟨h1, h2⟩ := hk p hp
  have hko : keyOk (.str p.1) = true := by
    show decide ((NestedKey.text p.1).depth ≤ 8) = true
    simp [NestedKey.depth]
  show (keyOk (.str p.1) && D.flatEq (.str p.1) && D.nice (.str p.1) && D.nice (f p.2)) = true
  rw [hko, flat_str h1, nice_of_str h1 h2, hv p hp]; rfl
section
variable {k : KM}
theorem KM.Ok.effNice (h : k.Ok) {es : List (Str × Bool)} (hn : (es.map (·.1)).Nodup) (hs : ∀ s ∈ es.map (·.1), s ∈ k.flags) (hl : es.length ≤ sizeLine) : (D.dct false (effD es)).nice = true :=
  nice_dctS (f := D.bl) hl hn (fun p hp => by
    have := name_of (h.flN _ (hs p.1 (List.mem_map.mpr ⟨p, hp, rfl⟩)))
    exact ⟨this.2.2.2, this.2.1⟩) fun _ _ => rfl
theorem nodup_len {α : Type} {l m : List α} [DecidableEq α] (hn : l.Nodup) (hs : ∀ s ∈ l, s ∈ m) : l.length ≤ m.length := by
  induction l generalizing m with
  | nil => exact Nat.zero_le _
  | cons a l ih =>
    rw [List.nodup_cons] at hn
    have ha := hs a List.mem_cons_self
    have h1 := ih (m := m.erase a) hn.2 fun s h => (List.mem_erase_of_ne (fun e => hn.1 (by rw [← e]; exact h))).mpr (hs s (List.mem_cons_of_mem _ h))
    rw [List.length_erase_of_mem ha] at h1
    have : 0 < m.length := List.length_pos_of_mem ha
    rw [List.length_cons]; omega
theorem KM.Ok.effLen (h : k.Ok) {es : List (Str × Bool)} (hn : (es.map (·.1)).Nodup) (hs : ∀ s ∈ es.map (·.1), s ∈ k.flags) : es.length ≤ 3 := by
  have := nodup_len hn hs
  rw [List.length_map] at this
  exact Nat.le_trans this h.flL
theorem KM.Ok.effNice' (h : k.Ok) {es : List (Str × Bool)} (hn : (es.map (·.1)).Nodup) (hs : ∀ s ∈ es.map (·.1), s ∈ k.flags) : (D.dct false (effD es)).nice = true := h.effNice hn hs (Nat.le_trans (h.effLen hn hs) (by decide))
theorem KM.Ok.cmdName (h : k.Ok) {s : Str} (hs : s ∈ k.cmds.map (·.1)) : isName s = true := by
  obtain ⟨p, hp, rfl⟩ := List.mem_map.mp hs
  exact h.cmN p hp
theorem KM.Ok.bndNice (h : k.Ok) {b : Bnd} (hb : b.Ok k.flags (k.cmds.map (·.1))) : b.toD.nice = true := by
  refine nice_tup_of (by show 3 ≤ sizeLine; decide) fun d hd => ?_
  simp only [List.mem_cons, List.not_mem_nil, or_false] at hd
  rcases hd with rfl | rfl | rfl
  · exact nice_of_str (let_ok hb.kl) hb.k1
  · exact h.effNice' hb.cn hb.cf
  · cases e : b.cmd with
    | none => rfl
    | some s =>
      have := name_of (h.cmdName (hb.cm s e))
      exact nice_of_str this.2.2.2 this.2.1
theorem KM.Ok.layLen (h : k.Ok) {l : List Bnd} (hl : l ∈ k.layers) : l.length ≤ 16 := by
  have : l.length ≤ total k.layers := le_total hl
  have := h.tot
  unfold total at *
  omega
theorem KM.Ok.nice (h : k.Ok) : k.toD.nice = true := by
  refine nice_tup_of (by show 5 ≤ sizeLine; decide) fun d hd => ?_
  simp only [List.mem_cons, List.not_mem_nil, or_false] at hd
  rcases hd with rfl | rfl | rfl | rfl | rfl
  · exact nice_sDs (Nat.le_trans h.flL (by decide)) h.flN
  · exact nice_sDs (Nat.le_trans (Nat.le_trans h.outS.length_le h.flL) (by decide)) fun s hs => h.flN s (h.outS.subset hs)
  · refine nice_dctS (f := fun es => .dct false (effD es)) (Nat.le_trans h.cmL (by decide)) h.cmU (fun p hp => ?_) fun p hp => ?_
    · have := name_of (h.cmN p hp)
      exact ⟨this.2.2.2, this.2.1⟩
    · exact h.effNice' (h.cmE p hp).1 (h.cmE p hp).2
  · refine nice_tup_of (by rw [List.length_map]; exact Nat.le_trans h.ly1 (by decide)) fun d hd => ?_
    obtain ⟨l, hl, rfl⟩ := List.mem_map.mp hd
    refine nice_tup_of (by rw [List.length_map]; exact Nat.le_trans (h.layLen hl) (by decide)) fun d hd => ?_
    obtain ⟨b, hb, rfl⟩ := List.mem_map.mp hd
    exact h.bndNice (h.bd l hl b hb)
  · rfl
/-! ### shown -/
theorem Sh.nameS {s : Str} (h : isName s = true) : Sh 0 82 (.str s) := Sh.str (name_of h).2.2.2 (name_of h).2.1
theorem KM.Ok.effSh (h : k.Ok) {es : List (Str × Bool)} (hn : (es.map (·.1)).Nodup) (hs : ∀ s ∈ es.map (·.1), s ∈ k.flags) : Sh 1 508 (.dct false (effD es)) := by
  refine (Sh.dct (n := 0) (w := 82) (m := 3) (fun p hp => ?_) (by rw [effD, List.length_map]; exact h.effLen hn hs)).mono (by decide) (by decide)
  obtain ⟨q, hq, rfl⟩ := List.mem_map.mp hp
  exact ⟨Sh.nameS (h.flN _ (hs _ (List.mem_map.mpr ⟨q, hq, rfl⟩))), (Sh.bl _).mono (by decide) (by decide)⟩
theorem KM.Ok.bndSh (h : k.Ok) {b : Bnd} (hb : b.Ok k.flags (k.cmds.map (·.1))) : Sh 2 1534 b.toD := by
  refine (Sh.tup (n := 1) (w := 508) (m := 3) (fun d hd => ?_) (by show 3 ≤ 3; decide)).mono (by decide) (by decide)
  simp only [List.mem_cons, List.not_mem_nil, or_false] at hd
  rcases hd with rfl | rfl | rfl
  · exact (Sh.str (let_ok hb.kl) hb.k1).mono (by decide) (by decide)
  · exact h.effSh hb.cn hb.cf
  · cases e : b.cmd with
    | none => exact Sh.non.mono (by decide) (by decide)
    | some s => exact (Sh.nameS (h.cmdName (hb.cm s e))).mono (by decide) (by decide)
theorem small_log {i : Int} (h0 : 0 ≤ i) (h1 : i ≤ 1000000) : i.natAbs.log2 < 1920 := by
  have h2 : i.natAbs ≤ 1000000 := by omega
  have h3 : i.natAbs.log2 ≤ i.natAbs := Nat.log2_le_self _
  by_cases e : i.natAbs = 0
  · rw [e]; decide
  · exact (Nat.log2_lt e).mpr (Nat.lt_of_le_of_lt h2 (Nat.lt_of_lt_of_le (show 1000000 < 2 ^ 20 by decide) (Nat.pow_le_pow_right (by decide) (by decide))))
theorem KM.Ok.sh (h : k.Ok) : Sh 5 500000 k.toD := by
  refine (Sh.tup (n := 4) (w := 98332) (m := 5) (fun d hd => ?_) (by show 5 ≤ 5; decide)).mono (by decide) (by decide)
  simp only [List.mem_cons, List.not_mem_nil, or_false] at hd
  have nmS : ∀ {l : List Str}, l.length ≤ 3 → (∀ s ∈ l, isName s = true) → Sh 4 98332 (.tup (sDs l)) := fun {l} hl hn => (Sh.tup (n := 0) (w := 82) (m := 3) (fun d hd => by
    obtain ⟨s, hs, rfl⟩ := List.mem_map.mp hd
    exact Sh.nameS (hn s hs)) (by rw [List.length_map]; exact hl)).mono (by decide) (by decide)
  rcases hd with rfl | rfl | rfl | rfl | rfl
  · exact nmS h.flL h.flN
  · exact nmS (Nat.le_trans h.outS.length_le h.flL) fun s hs => h.flN s (h.outS.subset hs)
  · refine (Sh.dct (n := 1) (w := 508) (m := 8) (fun p hp => ?_) (by rw [cmdsD, List.length_map]; exact h.cmL)).mono (by decide) (by decide)
    obtain ⟨q, hq, rfl⟩ := List.mem_map.mp hp
    exact ⟨(Sh.nameS (h.cmN q hq)).mono (by decide) (by decide), h.effSh (h.cmE q hq).1 (h.cmE q hq).2⟩
  · refine (Sh.tup (n := 3) (w := 24580) (m := 4) (fun d hd => ?_) (by rw [List.length_map]; exact h.ly1)).mono (by decide) (by decide)
    obtain ⟨l, hl, rfl⟩ := List.mem_map.mp hd
    refine (Sh.tup (n := 2) (w := 1534) (m := 16) (fun d hd => ?_) (by rw [List.length_map]; exact h.layLen hl)).mono (by decide) (by decide)
    obtain ⟨b, hb, rfl⟩ := List.mem_map.mp hd
    exact h.bndSh (h.bd l hl b hb)
  · have := h.wt
    exact (Sh.int (small_log (by omega) (by omega))).mono (by decide) (by decide)
/-! ### is_map says yes -/
theorem strsOf_sDs : ∀ l : List Str, strsOf (.tup (sDs l)) = l
  | [] => rfl
  | s :: l => by
    show s :: strsOf (.tup (sDs l)) = _
    rw [strsOf_sDs l]
theorem inB_str {fs : List Str} {s : Str} : inB fs (.str s) = decide (s ∈ fs) := by
  unfold inB
  induction fs with
  | nil => rfl
  | cons a fs ih =>
    show (D.eqv (.str a) (.str s) || (sDs fs).any fun z => z.eqv (.str s)) = _
    rw [ih]
    show ((a == s) || decide (s ∈ fs)) = _
    by_cases e : a = s
    · subst e; simp
    · have e' : ¬ s = a := fun z => e z.symm
      simp [e, e']
theorem letB_name {s : Str} (h : isName s = true) : areLetB 1 8 (.str s) = true := by
  obtain ⟨h1, h2, h3, _⟩ := name_of h
  show ((decide (1 ≤ (s.length : Int)) && decide ((s.length : Int) ≤ 8)) && isLets s) = true
  rw [h3, decide_eq_true (show (1 : Int) ≤ s.length by omega), decide_eq_true (show (s.length : Int) ≤ 8 by omega)]; rfl
theorem asc_zip : ∀ {l : List Str}, (l.Pairwise fun a b => ltS a b = true) → ((sDs l).zip ((sDs l).drop 1)).all (fun p => ltB p.1 p.2) = true
  | [], _ => rfl
  | [_], _ => rfl
  | a :: b :: l, h => by
    rw [List.pairwise_cons] at h
    have h2 := asc_zip h.2
    show (ltS a b && ((sDs (b :: l)).zip ((sDs (b :: l)).drop 1)).all fun p => ltB p.1 p.2) = true
    rw [h.1 b (by simp), h2]; rfl
theorem names_true {l : List Str} (hl : l.length ≤ 3) (hn : ∀ s ∈ l, isName s = true) (ha : l.Pairwise fun a b => ltS a b = true) : areNamesB 3 (.tup (sDs l)) = true := by
  show (decide (((sDs l).length : Int) ≤ 3) && (sDs l).all (areLetB 1 8) && ((sDs l).zip ((sDs l).drop 1)).all fun p => ltB p.1 p.2) = true
  rw [asc_zip ha, decide_eq_true (by rw [List.length_map]; omega), List.all_eq_true.mpr fun d hd => by
    obtain ⟨s, hs, rfl⟩ := List.mem_map.mp hd
    exact letB_name (hn s hs)]; rfl
theorem eff_true {fs : List Str} {es : List (Str × Bool)} (hn : (es.map (·.1)).Nodup) (hs : ∀ s ∈ es.map (·.1), s ∈ fs) : isEffB fs (.dct false (effD es)) = true := by
  have hk : (effD es).map (·.1) = sDs (es.map (·.1)) := by
    unfold effD; rw [List.map_map, sDs, List.map_map]; rfl
  have hu : (keysN (effD es)).Nodup := by
    unfold keysN effD
    rw [List.map_map]
    have e : ((fun p : D × D => kN p.1) ∘ fun p : Str × Bool => ((D.str p.1, D.bl p.2) : D × D)) = (fun s => NestedKey.text s) ∘ fun p : Str × Bool => p.1 := rfl
    rw [e, ← List.map_map]
    exact List.pairwise_map.mpr (hn.imp fun h z => h (NestedKey.text.inj z))
  show (((effD es).map (·.1)).all (inB fs) && ((effD es).map (·.1)).all fun k => match getK (effD es) (kN k) with
    | some v => isBlB v
    | none => false) = true
  rw [Bool.and_eq_true]
  constructor
  · rw [hk, List.all_eq_true]
    intro d hd
    obtain ⟨s, h, rfl⟩ := List.mem_map.mp hd
    rw [inB_str]; exact decide_eq_true (hs s h)
  · rw [List.all_eq_true]
    intro d hd
    obtain ⟨p, hp, rfl⟩ := List.mem_map.mp hd
    rw [getK_mem hu hp]
    obtain ⟨q, _, rfl⟩ := List.mem_map.mp hp
    rfl
theorem getK_some {α : Type} {l : List (Str × α)} {f : α → D} {s : Str} (h : s ∈ l.map (·.1)) : (getK (l.map fun p => ((.str p.1, f p.2) : D × D)) (.text s)).isSome = true := by
  induction l with
  | nil => cases h
  | cons p l ih =>
    show (if NestedKey.text p.1 = NestedKey.text s then some (f p.2) else getK (l.map fun p => ((.str p.1, f p.2) : D × D)) (.text s)).isSome = true
    by_cases e : p.1 = s
    · rw [if_pos (by rw [e])]; rfl
    · rw [if_neg fun z => e (NestedKey.text.inj z)]
      exact ih (by
        rcases List.mem_cons.mp h with z | z
        · exact absurd z.symm e
        · exact z)
theorem KM.Ok.isMap (h : k.Ok) : isMapB k.toD = true := by
  show (areNamesB 3 (.tup (sDs k.flags)) && areNamesB 3 (.tup (sDs k.outside)) && (sDs k.outside).all (inB (strsOf (.tup (sDs k.flags)))) && areCmdsB (strsOf (.tup (sDs k.flags))) (.dct false (cmdsD k.cmds)) && isLaysB (strsOf (.tup (sDs k.flags))) (cmdsD k.cmds) (.tup (k.layers.map layD)) && isIntB 1 1000 (.int k.wait)) = true
  rw [strsOf_sDs, names_true h.flL h.flN h.flA, names_true (Nat.le_trans h.outS.length_le h.flL) (fun s hs => h.flN s (h.outS.subset hs)) (h.flA.sublist h.outS)]
  have h1 : (sDs k.outside).all (inB k.flags) = true := by
    rw [List.all_eq_true]
    intro d hd
    obtain ⟨s, hs, rfl⟩ := List.mem_map.mp hd
    rw [inB_str]; exact decide_eq_true (h.outS.subset hs)
  have hu : (keysN (cmdsD k.cmds)).Nodup := by
    have := (nice_tup h.nice).2 (.dct false (cmdsD k.cmds)) (by simp)
    exact (nice_dct this).2.2.1
  have h2 : areCmdsB k.flags (.dct false (cmdsD k.cmds)) = true := by
    have e1 : decide (((cmdsD k.cmds).length : Int) ≤ 8) = true := decide_eq_true (by rw [cmdsD, List.length_map]; have := h.cmL; omega)
    have e2 : ((cmdsD k.cmds).map (·.1)).all (areLetB 1 8) = true := by
      rw [List.all_eq_true]
      intro d hd
      obtain ⟨p, hp, rfl⟩ := List.mem_map.mp hd
      obtain ⟨q, hq, rfl⟩ := List.mem_map.mp hp
      exact letB_name (h.cmN q hq)
    have e3 : ((cmdsD k.cmds).map (·.1)).all (fun x => match getK (cmdsD k.cmds) (kN x) with
        | some v => isEffB k.flags v
        | none => false) = true := by
      rw [List.all_eq_true]
      intro d hd
      obtain ⟨p, hp, rfl⟩ := List.mem_map.mp hd
      rw [getK_mem hu hp]
      obtain ⟨q, hq, rfl⟩ := List.mem_map.mp hp
      exact eff_true (h.cmE q hq).1 (h.cmE q hq).2
    show (decide (((cmdsD k.cmds).length : Int) ≤ 8) && ((cmdsD k.cmds).map (·.1)).all (areLetB 1 8) && ((cmdsD k.cmds).map (·.1)).all fun x => match getK (cmdsD k.cmds) (kN x) with
      | some v => isEffB k.flags v
      | none => false) = true
    rw [e1, e2, e3]; rfl
  have h3 : isLaysB k.flags (cmdsD k.cmds) (.tup (k.layers.map layD)) = true := by
    have e1 : (k.layers.map layD).all isTupB = true := by
      rw [List.all_eq_true]
      intro d hd
      obtain ⟨l, _, rfl⟩ := List.mem_map.mp hd
      rfl
    have e2 : decide (((k.layers.map layD).map lenI).sum ≤ 16) = true := by
      have : ∀ Ls : List (List Bnd), ((Ls.map layD).map lenI).sum = (total Ls : Int) := fun Ls => by
        induction Ls with
        | nil => rfl
        | cons l Ls ih =>
          rw [List.map_cons, List.map_cons, List.sum_cons, ih]
          show (((l.map Bnd.toD).length : Nat) : Int) + _ = ((total (l :: Ls) : Nat) : Int)
          rw [List.length_map, show total (l :: Ls) = l.length + total Ls by simp [total]]
          omega
      rw [this]
      have h9 : total k.layers ≤ 16 := h.tot
      exact decide_eq_true (by omega)
    have e3 : ((k.layers.map layD).flatMap its).all (isBndB k.flags (cmdsD k.cmds)) = true := by
      rw [List.all_eq_true]
      intro d hd
      obtain ⟨x, hx, hd⟩ := List.mem_flatMap.mp hd
      obtain ⟨l, hl, rfl⟩ := List.mem_map.mp hx
      obtain ⟨b, hb, rfl⟩ := List.mem_map.mp (show d ∈ l.map Bnd.toD from hd)
      have bo := h.bd l hl b hb
      show (areLetB 1 4 (.str b.keys) && isEffB k.flags (.dct false (effD b.cond)) && (isNone (cmdD b.cmd) || (isStrB (cmdD b.cmd) && (getK (cmdsD k.cmds) (kN (cmdD b.cmd))).isSome))) = true
      rw [eff_true bo.cn bo.cf]
      have e4 : areLetB 1 4 (.str b.keys) = true := by
        show ((decide (1 ≤ (b.keys.length : Int)) && decide ((b.keys.length : Int) ≤ 4)) && isLets b.keys) = true
        have := bo.k0; have := bo.k1
        rw [bo.kl, decide_eq_true (show (1 : Int) ≤ b.keys.length by omega), decide_eq_true (show (b.keys.length : Int) ≤ 4 by omega)]; rfl
      rw [e4]
      cases e : b.cmd with
      | none => rfl
      | some s =>
        show (true && true && (false || (true && (getK (cmdsD k.cmds) (.text s)).isSome))) = true
        rw [show (getK (cmdsD k.cmds) (.text s)).isSome = true from getK_some (f := fun es => .dct false (effD es)) (bo.cm s e)]; rfl
    show ((decide (1 ≤ ((k.layers.map layD).length : Int)) && decide (((k.layers.map layD).length : Int) ≤ 4)) && (k.layers.map layD).all isTupB && decide (((k.layers.map layD).map lenI).sum ≤ 16) && ((k.layers.map layD).flatMap its).all (isBndB k.flags (cmdsD k.cmds))) = true
    have := h.ly0; have := h.ly1
    rw [e1, e2, e3, List.length_map, decide_eq_true (show (1 : Int) ≤ k.layers.length by omega), decide_eq_true (show (k.layers.length : Int) ≤ 4 by omega)]; rfl
  rw [h1, h2, h3]
  have := h.wt
  show (decide (1 ≤ k.wait) && decide (k.wait ≤ 1000)) = true
  rw [decide_eq_true this.1, decide_eq_true this.2]; rfl
end
end KW
set_option maxHeartbeats 1000000
/-! KT5: more pure readings. -/
namespace KW
open PySem PySem.Spec L2
open PyProof.Rows hiding St

/-! ### a few more readings -/
theorem ez_fzV {te : TDE} {t : TDZ} {ρ : Env} {d : D} {ds : List D} (h : EvV te ρ d) (hr : Ez t ρ ds) : Ez (zFz te t) ρ (d.fz :: ds) := fun Q q => h _ ⟨d.fz, ρ, rfl, hr _ q⟩
theorem ez_takeV {te : TDE} {t : TDZ} {ρ : Env} {d : D} {ds : List D} (h : EvV te ρ d) (hr : Ez t ρ ds) : Ez (zTake te t) ρ (d :: ds) := fun Q q => h _ ⟨d, ρ, rfl, hr _ q⟩
def Eo (t : TDO) (ρ : Env) (o : Option Int) : Prop := ∀ Q : Option Int → Env → Prop, Q o ρ → t ρ Q
theorem eo_no {ρ : Env} : Eo dNoPart ρ none := fun Q q => q
theorem eo_part {ρ : Env} {te : TDE} {i : Int} (h : Ev te ρ (.int i)) : Eo (dPart te) ρ (some i) := fun Q q => h _ fun x hx => ⟨i, hx, q⟩
theorem evv_slT {ρ : Env} {te : TDE} {tl th : TDO} {ds : List D} {lo hi : Option Int} (h : Ev te ρ (.tup ds)) (h1 : Eo tl ρ lo) (h2 : Eo th ρ hi) (hz : D.isFzs ds = true) : EvV (dSl te tl th) ρ (.tup (cutD ds lo hi)) := fun Q q => h _ fun x hx => h1 _ (h2 _ ⟨_, hx, _, if_pos hz, q⟩)
theorem mut_app {i : Nat} {t : TDZ} {ρ : Env} {l : List D} {y : D} {Dd : EndsD} (g : ρ.getD i none = some (.lst true l)) (h : Ez t ρ [y]) (hl : l.length < sizeLine) (k : Dd.nx (ρ.set i (some (.lst true (l ++ [y]))))) : dDrop (dMut i .list appendD t) Dd ρ :=
  ⟨⟨_, g, rfl⟩, h _ ⟨_, g, _, _, if_pos hl, k⟩⟩
theorem cut_mem {α : Type} {xs : List α} {lo hi : Option Int} {x : α} (h : x ∈ cutD xs lo hi) : x ∈ xs := List.mem_of_mem_drop (List.mem_of_mem_take h)
theorem cut_len {α : Type} {xs : List α} {lo hi : Option Int} : (cutD xs lo hi).length ≤ xs.length := by
  unfold cutD
  rw [List.length_take, List.length_drop]; omega
end KW
set_option maxHeartbeats 1000000
/-! KT6: what repr gives is a text of code points; equality of such texts; the pen. -/
namespace KW
open PySem PySem.Spec L2
open PyProof.Rows hiding St

abbrev okS (s : Str) : Prop := PyData.strOk s = true
theorem okS_iff {s : Str} : okS s ↔ ∀ c ∈ s.cps.toList, c < 0x110000 := by
  unfold okS PyData.strOk
  rw [← Array.all_toList, List.all_eq_true]
  constructor
  · exact fun h c hc => of_decide_eq_true (h c hc)
  · exact fun h c hc => decide_eq_true (h c hc)
theorem okS_app {a b : Str} (h : okS a) (k : okS b) : okS (a ++ b) := okS_iff.mpr fun c hc => by
  have e : (a ++ b).cps.toList = a.cps.toList ++ b.cps.toList := by
    show (a.cps ++ b.cps).toList = _
    simp
  rw [e] at hc
  exact (List.mem_append.mp hc).elim (okS_iff.mp h c) (okS_iff.mp k c)
theorem char_lt (c : Char) : c.toNat < 0x110000 := by
  have h := c.valid
  have e : c.toNat = c.val.toNat := rfl
  rcases h with h | h
  · have h : c.val.toNat < 0xd800 := h
    omega
  · have h : c.val.toNat < 0x110000 := h.2
    omega
theorem okS_of (s : String) : okS (Str.ofString s) := okS_iff.mpr fun c hc => by
  rw [Str.ofString_eq_toList] at hc
  simp only [List.mem_map] at hc
  obtain ⟨x, _, rfl⟩ := hc
  exact char_lt x
theorem okS_join : ∀ {ts : List Str}, (∀ t ∈ ts, okS t) → okS (Str.join ", " ts)
  | [], _ => by decide +kernel
  | [x], h => h x (by simp)
  | x :: y :: r, h => okS_app (okS_app (h x (by simp)) (okS_of _)) (okS_join (ts := y :: r) fun t ht => h t (List.mem_cons_of_mem _ ht))
theorem okS_from : ∀ {ts : List Str} {k : Nat} {acc : Str}, okS acc → (∀ t ∈ ts, okS t) → okS (textFrom k acc ts)
  | [], _, _, h, _ => h
  | t :: ts, k, acc, h, hs => okS_from (ts := ts) (okS_app (okS_app h (okS_of _)) (hs t (by simp))) fun u hu => hs u (List.mem_cons_of_mem _ hu)
theorem okS_char {q c : Nat} (hc : c < 0x110000) : ∀ x ∈ Builtin.Str.reprChar q c, x < 0x110000 := by
  have hh : ∀ (l : List Char) (n : Nat), ∀ x ∈ List.replicate n 48 ++ l.map Char.toNat, x < 0x110000 := fun l n x hx => by
    rcases List.mem_append.mp hx with z | z
    · rw [(List.mem_replicate.mp z).2]; decide
    · obtain ⟨y, _, rfl⟩ := List.mem_map.mp z
      exact char_lt y
  intro x hx
  unfold Builtin.Str.reprChar at hx
  dsimp only at hx
  repeat' split at hx
  all_goals first
    | (simp only [List.mem_cons, List.not_mem_nil, or_false] at hx; omega)
    | (rcases List.mem_append.mp hx with z | z
       · simp only [List.mem_cons, List.not_mem_nil, or_false] at z; omega
       · exact hh _ _ x z)
theorem okS_repr {x : Str} (h : okS x) : okS (reprText x) := by
  have hf : ∀ (q : Nat) (l : List Nat) (acc : Array Nat), (∀ c ∈ l, c < 0x110000) → (∀ c ∈ acc.toList, c < 0x110000) → ∀ c ∈ (l.foldl (fun out c => out ++ (Builtin.Str.reprChar q c).toArray) acc).toList, c < 0x110000 := fun q l => by
    induction l with
    | nil => exact fun acc _ h => h
    | cons d l ih =>
      intro acc h1 h2
      refine ih _ (fun c hc => h1 c (List.mem_cons_of_mem _ hc)) fun c hc => ?_
      rw [Array.toList_append] at hc
      rcases List.mem_append.mp hc with z | z
      · exact h2 c z
      · exact okS_char (h1 d (by simp)) c (by simpa using z)
  have hq : ∀ b : Bool, (if b = true then 34 else 39 : Nat) < 0x110000 := fun b => by cases b <;> decide
  refine okS_iff.mpr fun c hc => ?_
  unfold reprText at hc
  have hc : c ∈ ((x.cps.foldl (fun out c => out ++ (Builtin.Str.reprChar (reprQuote x) c).toArray) #[reprQuote x]).push (reprQuote x)).toList := hc
  rw [← Array.foldl_toList] at hc
  have q1 : reprQuote x < 0x110000 := by
    unfold reprQuote
    exact hq _
  rw [Array.toList_push] at hc
  rcases List.mem_append.mp hc with z | z
  · exact hf _ _ _ (okS_iff.mp h) (fun c hc => by
      have : c = reprQuote x := by simpa using hc
      rw [this]; exact q1) c z
  · rw [List.mem_singleton.mp z]; exact q1
mutual
theorem shown_ok : ∀ d : D, d.nice = true → okS d.py.shown
  | .non, _ => by decide +kernel
  | .bl b, _ => by cases b <;> decide +kernel
  | .int i, _ => okS_of _
  | .str s, h => okS_repr (nice_str h).1
  | .opq _, h => by cases h
  | .tup ds, h => by
    rw [D.py, PyData.shown]
    have := shown_oks ds (by rw [D.nice, Bool.and_eq_true] at h; exact h.2)
    unfold tupleText
    exact okS_app (okS_app (okS_of _) (okS_join this)) (okS_of _)
  | .lst o ds, h => by
    rw [D.py, PyData.shown]
    have := shown_oks ds (by rw [D.nice, Bool.and_eq_true] at h; exact h.2)
    unfold listText
    exact okS_app (okS_from (okS_of _) this) (okS_of _)
  | .dct o kvs, h => by
    rw [D.py, PyData.shown]
    have := shown_okk kvs (by rw [D.nice, Bool.and_eq_true] at h; exact h.2)
    unfold dictText
    exact okS_app (okS_app (okS_of _) (okS_join this)) (okS_of _)
theorem shown_oks : ∀ ds : List D, D.nices ds = true → ∀ t ∈ PyData.shownAll (D.pys ds), okS t
  | [], _ => fun _ z => by cases z
  | d :: ds, h => by
    rw [D.nices, Bool.and_eq_true] at h
    intro t ht
    have ht : t ∈ d.py.shown :: PyData.shownAll (D.pys ds) := ht
    rcases List.mem_cons.mp ht with z | z
    · rw [z]; exact shown_ok d h.1
    · exact shown_oks ds h.2 t z
theorem shown_okk : ∀ kvs : List (D × D), D.nicek kvs = true → ∀ t ∈ PyData.shownKv (D.pyk kvs), okS t
  | [], _ => fun _ z => by cases z
  | (k, d) :: r, h => by
    rw [D.nicek, Bool.and_eq_true, Bool.and_eq_true, Bool.and_eq_true] at h
    intro t ht
    have ht : t ∈ (k.py.shown ++ ": " ++ d.py.shown) :: PyData.shownKv (D.pyk r) := ht
    rcases List.mem_cons.mp ht with z | z
    · rw [z]; exact okS_app (okS_app (shown_ok k h.1.1.2) (okS_of _)) (shown_ok d h.1.2)
    · exact shown_okk r h.2 t z
end
theorem eqv_refl_strs : ∀ l : List Str, PyData.eqvAll (D.pys (sDs l)) (D.pys (sDs l)) = true
  | [] => rfl
  | s :: l => by
    show ((s == s) && PyData.eqvAll (D.pys (sDs l)) (D.pys (sDs l))) = true
    rw [eqv_refl_strs l]; simp
theorem ne_same {l : List Str} {o o' : Bool} (h : ∀ s ∈ l, okS s) : neD (.lst o (sDs l)) (.lst o' (sDs l)) = some (.bl false) := by
  unfold neD
  rw [flat_lstS h, flat_lstS h]
  simp only [Bool.and_self, if_true]
  have e : D.eqv (.lst o (sDs l)) (.lst o' (sDs l)) = true := by
    show PyData.eqv (D.py (.lst o (sDs l))) (D.py (.lst o' (sDs l))) = true
    rw [D.py, D.py]
    show PyData.eqvAll (D.pys (sDs l)) (D.pys (sDs l)) = true
    exact eqv_refl_strs l
  rw [e]; rfl
theorem ev_repr {ρ : Env} {te : TDE} {d : D} (h : Ev te ρ d) (hd : reprOk d = true) : Ev (dCall reprD (dCons te dNil)) ρ (.str d.shown) := ev_call1 h (if_pos hd)
/-! ### the pen is made -/
theorem cut_map {α β : Type} (f : α → β) (xs : List α) (lo hi : Option Int) : cutD (xs.map f) lo hi = (cutD xs lo hi).map f := by
  unfold cutD
  rw [List.length_map, List.map_take, List.map_drop]
theorem enum_len (k : Int) (ds : List D) : (enumD k ds).length = ds.length := by unfold enumD; rw [List.length_map, List.length_zipIdx]
theorem open_ok {ns : List Int} {Q : D → Prop} (hn : ns.length ≤ 1000) (h : ∀ d, PenOk 0 d → Q d) : F_open [.lst false (ns.map .int)] Q := by
  show rd_open _ [some (.lst false (ns.map .int)), none, none, none]
  have fzv : ∀ (o : Bool) (is : List Int) (ρ : Env), fzO (.val (.lst o (is.map .int))) ρ = some (.lst false (is.map .int), ρ) := fun o is ρ => by
    show some ((D.lst o (is.map .int)).fz, ρ) = _
    rw [D.fz, fzs_ints]
  unfold rd_open
  have hz : (1000 : Nat) < sizeLine := by decide
  have h1 : D.isFzs (ns.map D.int) = true := isFzs_ints ns
  refine ⟨_, rfl, 12, rfl, _, rfl, .lst true ((cutD ns none (some 12)).map .int), ?_, _, rfl, .lst true ((cutD ns none (some 12)).map .int), if_pos (isFzs_ints _), _, _, rfl, ?_⟩
  · show (if D.isFzs (ns.map D.int) = true then some (D.lst true (cutD (ns.map D.int) none (some 12))) else none) = _
    rw [if_pos h1, cut_map]
  refine ⟨_, rfl, 12, rfl, 63, rfl, _, rfl, .lst true ((cutD ns (some 12) (some 63)).map .int), ?_, .lst false ((cutD ns (some 12) (some 63)).map .int), [some (.lst false (ns.map .int)), some (.lst true ((cutD ns none (some 12)).map .int)), none, none], fzv _ _ _, _, rfl, _, rfl, ?_⟩
  · show (if D.isFzs (ns.map D.int) = true then some (D.lst true (cutD (ns.map D.int) (some 12) (some 63))) else none) = _
    rw [if_pos h1, cut_map]
  -- where there are items, there are twelve cells
  have c12 : cutD ns (some 12) (some 63) ≠ [] → (cutD ns none (some 12)).length = 12 := fun hne => by
    have hl : 12 < ns.length := by
      rcases Nat.lt_or_ge 12 ns.length with z | z
      · exact z
      · refine absurd ?_ hne
        unfold cutD
        have e1 : HT.sIx ns.length 0 (some 12) = min 12 ns.length := HT.sIx_nat _ _ 12
        rw [e1, Nat.min_eq_right z, List.drop_length, List.take_nil]
    unfold cutD
    have e1 : HT.sIx ns.length ns.length (some 12) = min 12 ns.length := HT.sIx_nat _ _ 12
    rw [HT.sIx_none, e1, Nat.min_eq_left (by omega), List.drop_zero, Nat.sub_zero, List.length_take]
    omega
  refine for_ind (fun ds ρ => ∃ (cs : List Int) (x y : Option D), (ds ≠ [] → cs.length = 12) ∧ (∀ z ∈ ds, ∃ (k : Nat) (i : Int), z = .tup [.int (0 + (k : Int)), .int i]) ∧ ρ = [some (.lst false (ns.map .int)), some (.lst true (cs.map .int)), x, y]) (fun ρ hI => ?_) (fun R f ds ρ hI k => ?_) _ _ ⟨cutD ns none (some 12), none, none, fun hd => c12 fun z => hd (by rw [z]; rfl), fun z hz => ?_, rfl⟩
  · obtain ⟨cs, x, y, _, _, rfl⟩ := hI
    have fs : fzO (.slot 1) [some (.lst false (ns.map .int)), some (.lst true (cs.map .int)), x, y] = some (.lst false (cs.map .int), [some (.lst false (ns.map .int)), some (.lst false (cs.map .int)), x, y]) := by
      show some ((D.lst true (cs.map .int)).fz, [_, some (D.lst true (cs.map .int)).fz, x, y]) = _
      rw [D.fz, fzs_ints]
    exact ⟨_, rfl, .lst false (cs.map .int), [some (.lst false (ns.map .int)), some (.lst false (cs.map .int)), x, y], fs, _, _, rfl, _, _, rfl, by show 3 ≤ sizeLine; decide, _, _, rfl, h _ ⟨cs, 0, 0, rfl, Int.le_refl _, Int.le_refl _⟩⟩
  · obtain ⟨cs, x, y, hl, hi, rfl⟩ := hI
    have h12 := hl (by simp)
    obtain ⟨j, i, rfl⟩ := hi f (by simp)
    refine ⟨_, rfl, rfl, _, _, rfl, _, _, rfl, rfl, ?_⟩
    have hm : (0 : Int) ≤ (0 + (j : Int)) % 12 ∧ (0 + (j : Int)) % 12 < 12 := ⟨by omega, by omega⟩
    obtain ⟨c, hc⟩ := atI_int (cs := cs) (i := (0 + (j : Int)) % 12) hm.1 (by rw [h12]; exact hm.2)
    refine ev_store (k := ((0 + (j : Int)) % 12).toNat) (ds := cs.map .int) (d := .int (c + i)) (ev_add (ev_ixl (ev_var (d := .lst true (cs.map .int)) rfl) (ev_mod (ev_var rfl) ev_c (by decide)) hc) (ev_var rfl)) rfl (ev_mod (ev_var rfl) ev_c (by decide)) rfl ?_ ?_
    · unfold L2.ixN
      rw [if_pos hm.1, if_pos (by rw [List.length_map, h12]; exact hm.2)]
    · refine k _ ⟨cs.set ((0 + (j : Int)) % 12).toNat (c + i), some (.int (0 + (j : Int))), some (.int i), fun _ => by rw [List.length_set]; exact h12, fun z hz => hi z (List.mem_cons_of_mem _ hz), ?_⟩
      rw [List.map_set]; rfl
  · unfold enumD at hz
    obtain ⟨p, hp, rfl⟩ := List.mem_map.mp hz
    obtain ⟨a, ha, e⟩ : ∃ a ∈ (cutD ns (some 12) (some 63)), D.int a = p.1 := by
      have q : p.1 ∈ (cutD ns (some 12) (some 63)).map D.int := by
        obtain ⟨x, i⟩ := p
        exact List.fst_mem_of_mem_zipIdx hp
      exact List.mem_map.mp q
    exact ⟨p.2, a, by rw [← e]⟩
end KW
set_option maxHeartbeats 1000000
/-! KX1: entries of rows, exactly. -/
namespace KW
open PySem PySem.Spec L2
open PyProof.Rows hiding St

theorem ev_dIf {ρ : Env} {t : TDT} {ta tb : TDE} {c : Bool} {d : D} (h : Et t ρ c) (k : if c = true then Ev ta ρ d else Ev tb ρ d) : Ev (dIf t ta tb) ρ d := fun Q q => h _ (by
  cases c
  · exact k Q q
  · exact k Q q)
theorem ev_m1 {ρ : Env} : Ev (dUn negD (dC (.int 1))) ρ (.int (-1)) := ev_un ev_c rfl
def lastD (ds : List D) : D := ds.getLast?.getD .non
theorem atI_last {ds : List D} (h : ds ≠ []) : atI ds (-1) = some (lastD ds) := by
  unfold atI lastD
  have hl : 0 < ds.length := List.length_pos_iff.mpr h
  rw [List.getLast?_eq_getElem?]
  have e : ds[ds.length - 1]? = some ds[ds.length - 1] := List.getElem?_eq_getElem (by omega)
  have e2 : ixN ds.length (-1) = some (ds.length - 1) := by
    unfold ixN
    rw [if_neg (by decide), if_pos (by omega)]
    congr 1
    omega
  rw [e2, e]
  show ds[ds.length - 1]? = _
  rw [e]; rfl
def eqK (a : D) (s : Str) : Bool := a.eqv (.str s)
theorem eq_str {a : D} {s : Str} (ha : a.flatEq = true) (hs : okS s) : eqD a (.str s) = some (.bl (eqK a s)) := by
  unfold eqD
  rw [ha, flat_str hs]; rfl
theorem flat_tup {ds : List D} (h : (D.tup ds).flatEq = true) : ∀ d ∈ ds, d.flatEq = true := fun d hd => by
  obtain ⟨h1, h2, h3⟩ := flatEq_of h
  rw [D.plain, D.plains_eq, List.all_eq_true] at h1
  rw [D.py, PyData.canLay0] at h2
  rw [D.py, PyData.depth] at h3
  have g2 : ∀ xs : List PyData, PyData.canLayAll0 xs = true → ∀ x ∈ xs, x.canLay0 = true := fun xs => by
    induction xs with
    | nil => exact fun _ _ z => nomatch z
    | cons y xs ih =>
      intro h x hx
      rw [PyData.canLayAll0, Bool.and_eq_true] at h
      rcases List.mem_cons.mp hx with rfl | z
      · exact h.1
      · exact ih h.2 x z
  have g3 : ∀ xs : List PyData, ∀ x ∈ xs, x.depth ≤ PyData.depthAll xs := fun xs => by
    induction xs with
    | nil => exact fun _ z => nomatch z
    | cons y xs ih =>
      intro x hx
      rw [PyData.depthAll]
      rcases List.mem_cons.mp hx with rfl | z
      · omega
      · have := ih x z; omega
  have hm : d.py ∈ D.pys ds := by rw [D.pys_eq]; exact List.mem_map_of_mem hd
  unfold D.flatEq
  rw [h1 d hd, g2 _ h2 _ hm, decide_eq_true (Nat.le_trans (g3 _ _ hm) (by omega))]; rfl
def isEnt' (outs : List Str) : List D → Bool
  | [a, b, _] => eqK a "key" && areLetB 1 1 b
  | [a, b, c, _] => eqK a "set" && (inB outs b && isBlB c)
  | _ => false
def isEntB (outs : List Str) : D → Bool
  | .tup ds => isIntB 0 1000000000 (lastD ds) && isEnt' outs ds
  | _ => false
theorem is_time_ok {d : D} {Q : D → Prop} (hd : d.nice = true) (h : Q (.bl (isIntB 0 1000000000 d))) : F_is_time [d] Q := by
  show rd_is_time _ [some d]
  unfold rd_is_time
  exact ev_retP (ev_callN (ez_fz (ev_var rfl) (ez_fz ev_c (ez_fz ev_c ez_nil)) (fz_of_nice hd)) rfl fun Q q => is_integer_ok hd q) fun _ => h
theorem ne_nilT {ds : List D} (h : (D.tup ds).flatEq = true) : neD (.tup ds) (.tup []) = some (.bl (!ds.isEmpty)) := by
  unfold neD
  rw [h, show (D.tup []).flatEq = true from rfl]
  cases ds <;> rfl
theorem last_mem {ds : List D} (h : ds ≠ []) : lastD ds ∈ ds := by
  unfold lastD
  cases e : ds.getLast? with
  | none => exact absurd (List.getLast?_eq_none_iff.mp e) h
  | some x => exact List.mem_of_getLast? e
/-- what is asked of the two keymap arguments -/
structure KOk (k : D) (ks : List D) (outs : List Str) : Prop where
  e : k = .tup ks
  nc : k.nice = true
  mp : isMapB k = true
  o1 : ks[1]? = some (.tup (sDs outs))
  ok : ∀ s ∈ outs, PyData.strOk s = true
theorem isFz_sDsT (l : List Str) : (D.tup (sDs l)).isFz = true := isFzs_sDs l
theorem ev_len {ρ : Env} {i : Nat} {j : Int} {c : Bool} {ds : List D} (h : ρ.getD i none = some (.tup ds)) (hc : decide ((ds.length : Int) = j) = c) : Ev (dBin eqD (dCall lenD (dCons (dVar i) dNil)) (dC (.int j))) ρ (.bl c) := by
  rw [← hc]; exact ev_eq (ev_lenT (ev_var h)) ev_c
theorem is_entry_ok {k d : D} {ks : List D} {outs : List Str} {Q : D → Prop} (hk : KOk k ks outs) (hd : d.nice = true) (hq : d.flatEq = true) (h : Q (.bl (isEntB outs d))) : F_is_entry [k, d] Q := by
  show rd_is_entry _ [some k, some d]
  unfold rd_is_entry
  have ek := hk.e
  cases d with
  | tup ds =>
    obtain ⟨hl, hn⟩ := nice_tup hd
    have hf := flat_tup hq
    have h : Q (.bl (isIntB 0 1000000000 (lastD ds) && isEnt' outs ds)) := h
    have nl : (lastD ds).nice = true := by
      by_cases e : ds = []
      · subst e; rfl
      · exact hn _ (last_mem e)
    refine et_if (et_or (et_not (et_tru (ev_isi (ev_var rfl) rfl))) fun _ => et_not (et_tru (ev_callN (ez_fz (d := lastD ds) (ev_dIf (et_tst (ev_bin (f := neD) (ev_var rfl) (ev_tup ez_nil (by show 0 ≤ sizeLine; decide)).ev (ne_nilT hq))) ?_) ez_nil (fz_of_nice nl)) rfl fun Q q => is_time_ok nl q))) ?_
    · cases ds with
      | nil => exact ev_c
      | cons a r => exact ev_ixt (ev_var rfl) ev_m1 (atI_last (by simp)) (fz_isFz (fz_of_nice nl))
    show if (false || !isIntB 0 1000000000 (lastD ds)) = true then _ else _
    cases ht : isIntB 0 1000000000 (lastD ds)
    · rw [ht] at h
      exact ev_retP ev_c fun _ => h
    rw [ht] at h
    rw [if_neg (by decide)]
    dsimp only [dNext]
    match ds, h with
    | [a, b, c], h =>
      refine ev_if (c := true) (ev_len (ds := [a, b, c]) rfl rfl) ?_
      exact ev_retP (ev_andV (ev_bin (ev_ixt (ev_var rfl) ev_c rfl (fz_isFz (fz_of_nice (hn a (by simp))))) ev_c (eq_str (hf a (by simp)) (by decide +kernel))) fun _ => ev_callN (ez_fz (d := b) (ev_ixt (ev_var rfl) ev_c rfl (fz_isFz (fz_of_nice (hn b (by simp))))) (ez_fz ev_c (ez_fz ev_c ez_nil)) (fz_of_nice (hn b (by simp)))) rfl fun Q q => are_letters_ok (hn b (by simp)) q) fun _ => h
    | [a, b, c, t], h =>
      refine ev_if (c := false) (ev_len (ds := [a, b, c, t]) rfl rfl) ?_
      refine ev_retP (d := .bl (true && (eqK a "set" && (inB outs b && isBlB c)))) (ev_andV (ev_len (ds := [a, b, c, t]) rfl rfl) fun _ => ev_andV (ev_bin (ev_ixt (ev_var rfl) ev_c rfl (fz_isFz (fz_of_nice (hn a (by simp))))) ev_c (eq_str (hf a (by simp)) (by decide +kernel))) fun _ => ev_andV (ev_bin (ev_ixt (ev_var rfl) ev_c rfl (fz_isFz (fz_of_nice (hn b (by simp))))) (ev_ixt (ev_var (d := .tup ks) (by rw [ek]; rfl)) ev_c (atI_nat hk.o1) (isFz_sDsT outs)) (in_tupS hk.ok (hf b (by simp)))) fun _ => ?_) fun _ => h
      obtain ⟨T, hT⟩ := D.nice_ty (hn c (by simp))
      rw [← isa_bool hT]
      exact ev_isi (ev_ixt (ev_var rfl) ev_c rfl (fz_isFz (fz_of_nice (hn c (by simp))))) hT
    | [], h =>
      refine ev_if (c := false) (ev_len (ds := []) rfl rfl) ?_
      exact ev_retP (d := .bl (false && false)) (ev_andV (b := false) (ev_len (ds := []) rfl rfl) fun z => absurd z (by decide)) fun _ => h
    | [x], h =>
      refine ev_if (c := false) (ev_len (ds := [x]) rfl rfl) ?_
      exact ev_retP (d := .bl (false && false)) (ev_andV (b := false) (ev_len (ds := [x]) rfl rfl) fun z => absurd z (by decide)) fun _ => h
    | [x, y], h =>
      refine ev_if (c := false) (ev_len (ds := [x, y]) rfl rfl) ?_
      exact ev_retP (d := .bl (false && false)) (ev_andV (b := false) (ev_len (ds := [x, y]) rfl rfl) fun z => absurd z (by decide)) fun _ => h
    | a :: b :: c :: e :: f :: r, h =>
      have e3 : decide (((a :: b :: c :: e :: f :: r).length : Int) = 3) = false := decide_eq_false (by simp only [List.length_cons]; omega)
      have e4 : decide (((a :: b :: c :: e :: f :: r).length : Int) = 4) = false := decide_eq_false (by simp only [List.length_cons]; omega)
      refine ev_if (c := false) (ev_len (ds := a :: b :: c :: e :: f :: r) rfl e3) ?_
      exact ev_retP (d := .bl (false && false)) (ev_andV (a := false) (b := false) (ev_len (ds := a :: b :: c :: e :: f :: r) rfl e4) fun z => absurd z (by decide)) fun _ => h
  | opq => cases hd
  | _ => exact et_if (et_or (b := false) (et_not (et_tru (ev_isi (ev_var rfl) rfl))) fun z => absurd z (by decide)) (ev_retP ev_c fun _ => h)
end KW
set_option maxHeartbeats 1000000
/-! KX2: rows, exactly. -/
namespace KW
open PySem PySem.Spec L2
open PyProof.Rows hiding St

def intV : D → Int
  | .int i => i
  | _ => 0
def timeOf : D → Int
  | .tup ds => intV (lastD ds)
  | _ => 0
def leT (p : D × D) : Bool := decide (timeOf p.1 ≤ timeOf p.2)
def isRowB (outs : List Str) : D → Bool
  | .lst _ es => decide ((es.length : Int) ≤ 300) && es.all (isEntB outs) && (es.zip (es.drop 1)).all leT
  | _ => false
def isLstB : D → Bool
  | .lst _ _ => true
  | _ => false
/-- a value that may be asked: if it is a list, its items are flat -/
def AskRow (d : D) : Prop := d.nice = true ∧ ∀ o es, d = .lst o es → ∀ x ∈ es, x.flatEq = true
theorem nice_lst {o : Bool} {ds : List D} (h : (D.lst o ds).nice = true) : o = false ∧ ds.length ≤ sizeLine ∧ ∀ d ∈ ds, d.nice = true := by
  rw [D.nice, Bool.and_eq_true, Bool.and_eq_true, decide_eq_true_eq, D.nices_eq, List.all_eq_true] at h
  exact ⟨by simpa using h.1.1, h.1.2, h.2⟩
theorem ent_time {outs : List Str} {x : D} (h : isEntB outs x = true) : ∃ ds i, x = .tup ds ∧ ds ≠ [] ∧ lastD ds = .int i ∧ timeOf x = i := by
  cases x with
  | tup ds =>
    rw [isEntB, Bool.and_eq_true] at h
    have hi := h.1
    cases e : lastD ds with
    | int i => exact ⟨ds, i, rfl, (fun z => by rw [z] at e; cases e), e, by show intV (lastD ds) = i; rw [e]; rfl⟩
    | _ => rw [e] at hi; cases hi
  | _ => cases h
theorem ev_last {ρ : Env} {te : TDE} {outs : List Str} {x : D} (hx : isEntB outs x = true) (h : Ev te ρ x) : Ev (dBin ixD te (dUn negD (dC (.int 1)))) ρ (.int (timeOf x)) := by
  obtain ⟨ds, i, rfl, h0, h1, h2⟩ := ent_time hx
  rw [h2, ← h1]
  exact ev_ixt h ev_m1 (atI_last h0) (by rw [h1]; rfl)
theorem is_row_ok {k d : D} {ks : List D} {outs : List Str} {Q : D → Prop} (hk : KOk k ks outs) (hd : AskRow d) (h : Q (.bl (isRowB outs d))) : F_is_row [k, d] Q := by
  show rd_is_row _ [some k, some d, none, none]
  unfold rd_is_row
  dsimp only [dSeq, dDrop]
  have fk := fz_of_nice hk.nc
  refine (evv_callU (d := .non) (ez_fz (ev_var rfl) ez_nil fk) rfl fun Q q => need_map_ok hk.nc hk.mp q) _ ?_
  cases d with
  | lst o ds =>
    obtain ⟨ho, hl, hn⟩ := nice_lst hd.1
    subst ho
    have hq := hd.2 _ _ rfl
    have hf := fz_of_nice hd.1
    refine et_if (et_or (et_not (et_tru (ev_isi (ev_var rfl) rfl))) fun _ => et_or (et_tst (ev_gt (ev_lenL (ev_var rfl)) ev_c)) fun _ => et_not (et_tru (ev_all (p := isEntB outs) (ei_iter (ev_var rfl) hf rfl) hl rfl fun x hx =>
      ev_callN (ez_fz (ev_var rfl) (ez_fz (ev_var rfl) ez_nil (fz_of_nice (hn x hx))) fk) rfl fun Q q => is_entry_ok hk (hn x hx) (hq x hx) q))) ?_
    have h : Q (.bl (decide ((ds.length : Int) ≤ 300) && ds.all (isEntB outs) && (ds.zip (ds.drop 1)).all leT)) := h
    split
    · rename_i hc
      have e : (decide ((ds.length : Int) ≤ 300) && ds.all (isEntB outs)) = false := by
        have hc : ((false || (decide (300 < (ds.length : Int)) || !ds.all (isEntB outs)))) = true := hc
        cases h1 : decide ((ds.length : Int) ≤ 300)
        · rfl
        · have : decide (300 < (ds.length : Int)) = false := by
            rw [decide_eq_true_eq] at h1
            exact decide_eq_false (by omega)
          rw [this] at hc
          simpa using hc
      rw [e] at h
      exact ev_retP ev_c fun _ => h
    · rename_i hc
      have e : decide ((ds.length : Int) ≤ 300) = true ∧ ds.all (isEntB outs) = true := by
        have hc : ¬ ((false || (decide (300 < (ds.length : Int)) || !ds.all (isEntB outs)))) = true := hc
        simp only [Bool.false_or, Bool.or_eq_true, decide_eq_true_eq, not_or, Bool.not_eq_true', Bool.not_eq_false] at hc
        exact ⟨decide_eq_true (by omega), by simpa using hc.2⟩
      rw [e.1, e.2] at h
      dsimp only [dNext]
      refine ev_retP (d := .bl ((ds.zip (ds.drop 1)).all leT)) (evv_callc (d := .lst true ((ds.zip (ds.drop 1)).map fun p => .bl (leT p))) (fun Q q => ?_) (allD_map _ _)).ev fun _ => h
      have h1 : D.isFzs ds = true := by have := D.nice_fz _ hd.1; rw [D.isFz] at this; simpa using this
      have h2 : D.isFzs (ds.drop 1) = true := by
        rw [D.isFzs_eq, List.all_eq_true] at h1 ⊢
        exact fun x hx => h1 x (List.mem_of_mem_drop hx)
      refine ⟨_, rfl, .lst false ds, _, fz_fz' (x := .slot 1) rfl hf, _, rfl, _, rfl, _, rfl, .lst true (ds.drop 1), ?_, .lst false (ds.drop 1), [some k, some (.lst false ds), none, none], ?_, _, _, rfl, ds, ds.drop 1, rfl, rfl, ?_⟩
      · show (if D.isFzs ds = true then some (D.lst true (cutD ds (some 1) none)) else none) = _
        rw [cut1, if_pos h1]
      · show some ((D.lst true (ds.drop 1)).fz, _) = _
        rw [D.fz, D.fzs_of _ h2]
      · rw [zip_tup]
        refine comp_map2 (f := fun a b => .bl (leT (a, b))) _ (by decide) (Nat.le_trans (List.length_zip ▸ Nat.min_le_left _ _) hl) (fun p hp Q' hq => ?_) q
        have ha := List.all_eq_true.mp e.2 p.1 (List.of_mem_zip hp).1
        have hb := List.all_eq_true.mp e.2 p.2 (List.mem_of_mem_drop (List.of_mem_zip hp).2)
        exact ev_le (ev_last ha (ev_var rfl)) (ev_last hb (ev_var rfl)) _ fun x hx => hq x _ (take_fz hx rfl)
  | opq => cases hd.1
  | _ => exact et_if (et_or (b := false) (et_not (et_tru (ev_isi (ev_var rfl) rfl))) fun z => absurd z (by decide)) (ev_retP ev_c fun _ => h)
end KW
set_option maxHeartbeats 1000000
/-! KX3: the law's own check of entries and rows, exactly. -/
namespace KW
open PySem PySem.Spec L2
open PyProof.Rows hiding St

theorem lt_one (a b : Nat) : ltS ⟨#[a]⟩ ⟨#[b]⟩ = decide (a < b) := by
  unfold ltS
  show decide ([a] < [b]) = _
  have : ([a] < [b]) ↔ a < b := by
    rw [List.cons_lt_cons_iff]
    constructor
    · rintro (h | ⟨_, h⟩)
      · exact h
      · cases h
    · exact fun h => .inl h
  simp only [this]
theorem isLet_rng (c : Nat) : isLet c = (decide (97 ≤ c) && decide (c ≤ 122)) := by
  have e : LETS.cps.toList = List.range' 97 26 := by decide +kernel
  unfold isLet
  rw [e, ← Bool.decide_and]
  congr 1
  rw [List.mem_range'_1]
  apply propext
  omega
theorem let_one {s : Str} (h : s.length = 1) : (!ltS s "a" && !ltS "z" s) = isLets s := by
  obtain ⟨⟨l⟩⟩ := s
  match l, h with
  | [c], _ =>
    have e1 : ltS ⟨#[c]⟩ "a" = decide (c < 97) := lt_one c 97
    have e2 : ltS "z" ⟨#[c]⟩ = decide (122 < c) := lt_one 122 c
    have e3 : isLets ⟨#[c]⟩ = (isLet c && true) := rfl
    rw [e1, e2, e3, isLet_rng, Bool.and_true]
    congr 1
    · rw [← decide_not]; congr 1; simp
    · rw [← decide_not]; congr 1; simp
def lenB : D → Bool
  | .str s => decide (s.length = 1)
  | _ => false
theorem nin34 (n : Int) : ninO (.int n) (.tup [.int 3, .int 4]) = some (.bl (!(decide (3 = n) || decide (4 = n)))) := by
  show some (D.bl (!(PyData.eqv (.int 3) (.int n) || (PyData.eqv (.int 4) (.int n) || false)))) = _
  have e : ∀ i : Int, PyData.eqv (.int i) (.int n) = decide (i = n) := fun i => rfl
  rw [e, e, Bool.or_false]
theorem ev_chainS {ρ : Env} {ta tb tc : TDE} {a b c : Str} (ha : Ev ta ρ (.str a)) (hb : Ev tb ρ (.str b)) (hc : Ev tc ρ (.str c)) : Ev (dChain leD leD ta tb tc) ρ (.bl (!ltS b a && !ltS c b)) := fun Q q => ha _ fun x hx => hb _ fun y hy => ⟨_, hx, _, hy, _, rfl, by
  cases h1 : ltS b a
  · rw [h1] at q
    exact hc _ fun z hz => ⟨_, hy, _, hz, _, rfl, q _ rfl⟩
  · rw [h1] at q
    exact q _ rfl⟩
theorem isa_int {v : D} {T : Ty} (h : v.ty = some T) : T.isa .int = (match v with | .int _ => true | .bl _ => true | _ => false) := by
  cases v <;> cases h <;> rfl
/-- the time's check, in the law's words -/
theorem time_chk {ρ : Env} {t : D} (ht : t.nice = true) (h : ρ.getD 2 none = some t) : Et (dOr (dNot (dTru (dIsi .int (dVar 2)))) (dOr (dTru (dIsi .bool (dVar 2))) (dNot (dTst (dChain leD leD (dC (.int 0)) (dVar 2) (dBin powD (dC (.int 10)) (dC (.int 9)))))))) ρ (!isIntB 0 1000000000 t) := by
  obtain ⟨T, hT⟩ := D.nice_ty ht
  have h1 := ev_isi (n := .int) (ev_var (ρ := ρ) (i := 2) h) hT
  have h2 := ev_isi (n := .bool) (ev_var (ρ := ρ) (i := 2) h) hT
  cases t with
  | int i =>
    cases hT
    have := et_or (et_not (et_tru h1)) fun _ => et_or (et_tru h2) fun _ => et_not (et_tst (ev_chain (ev_c (ρ := ρ) (d := .int 0)) (ev_var h) (ev_pow (ev_c (d := .int 10)) (ev_c (d := .int 9)) (by decide))))
    exact this
  | bl b =>
    cases hT
    exact et_or (et_not (et_tru h1)) fun _ => et_or (b := false) (et_tru h2) fun z => absurd z (by decide)
  | opq => cases ht
  | _ =>
    cases hT
    exact et_or (b := false) (et_not (et_tru h1)) fun z => absurd z (by decide)
theorem in_lstS {fs : List Str} {k : D} {o : Bool} (hf : ∀ s ∈ fs, PyData.strOk s = true) (hk : k.flatEq = true) : inO k (.lst o (sDs fs)) = some (.bl (inB fs k)) := by
  have h := in_tupS hf hk
  cases k <;> exact h
theorem wis_entry_ok {k d : D} {ks : List D} {outs : List Str} {Q : D → Prop} (hk : KOk k ks outs) (hd : d.nice = true) (hq : d.flatEq = true) (h : Q (.bl (isEntB outs d))) : F_wis_entry [k, d] Q := by
  show rd_wis_entry _ [some k, some d, none, none]
  unfold rd_wis_entry
  have ek := hk.e
  cases d with
  | tup ds =>
    obtain ⟨hl, hn⟩ := nice_tup hd
    have hf := flat_tup hq
    have h : Q (.bl (isIntB 0 1000000000 (lastD ds) && isEnt' outs ds)) := h
    have nl : (lastD ds).nice = true := by
      by_cases e : ds = []
      · subst e; rfl
      · exact hn _ (last_mem e)
    refine et_if (et_or (et_not (et_tru (ev_isi (ev_var rfl) rfl))) fun _ => et_tst (ev_bin (f := ninO) (ev_lenT (ev_var rfl)) (ev_tup (ez_fz ev_c (ez_fz ev_c ez_nil)) (by show 2 ≤ sizeLine; decide)).ev (nin34 _))) ?_
    match ds, h with
    | [a, b, c], h =>
      have h : Q (.bl (isIntB 0 1000000000 c && (eqK a "key" && areLetB 1 1 b))) := h
      have nc : c.nice = true := hn c (by simp)
      have na := hn a (by simp); have nb := hn b (by simp)
      rw [if_neg (by simp; rfl)]
      dsimp only [dNext, dSeq]
      refine ev_set (d := c) (ev_ixt (ev_var rfl) ev_m1 rfl (fz_isFz (fz_of_nice nc))) (fz_of_nice nc) ?_
      refine et_if (time_chk nc rfl) ?_
      cases ht : isIntB 0 1000000000 c
      · rw [ht] at h
        exact ev_retP ev_c fun _ => h
      rw [ht] at h
      rw [if_neg (by decide)]
      dsimp only [dNext]
      refine ev_if (c := true) (ev_len (ds := [a, b, c]) rfl rfl) ?_
      rw [if_pos rfl]
      dsimp only [dSeq]
      have hb : Ev (dBin ixD (dVar 1) (dC (.int 1))) [some k, some (.tup [a, b, c]), some c, none] b := ev_ixt (ev_var rfl) ev_c rfl (fz_isFz (fz_of_nice nb))
      refine ev_set (d := .bl (areLetB 1 1 b)) ?_ rfl ?_
      · obtain ⟨T, hT⟩ := D.nice_ty nb
        cases b with
        | str s =>
          have hs := (nice_str nb).2
          have e : areLetB 1 1 (.str s) = (true && (decide ((s.length : Int) = 1) && (!ltS s "a" && !ltS "z" s))) := by
            show (decide ((1 : Int) ≤ (s.length : Int)) && decide ((s.length : Int) ≤ 1) && isLets s) = _
            by_cases h1 : s.length = 1
            · rw [let_one h1, h1]; rfl
            · rw [decide_eq_false (show ¬ ((s.length : Int) = 1) by omega), ← Bool.decide_and, decide_eq_false (show ¬ (1 ≤ (s.length : Int) ∧ (s.length : Int) ≤ 1) by omega)]; rfl
          rw [e]
          exact ev_andV (ev_isi hb rfl) fun _ => ev_andV (ev_eq (ev_lenS hb hs) ev_c) fun _ => ev_chainS ev_c hb ev_c
        | opq => cases nb
        | _ => cases hT; exact ev_andV (b := false) (ev_isi hb rfl) fun z => absurd z (by decide)
      · exact ev_retP (ev_andV (ev_bin (ev_ixt (ev_var (d := .tup [a, b, c]) rfl) ev_c rfl (fz_isFz (fz_of_nice na))) ev_c (eq_str (hf a (by simp)) (by decide +kernel))) fun _ => ev_var rfl) fun _ => h
    | [a, b, c, t], h =>
      have h : Q (.bl (isIntB 0 1000000000 t && (eqK a "set" && (inB outs b && isBlB c)))) := h
      have nt : t.nice = true := hn t (by simp)
      have na := hn a (by simp); have nb := hn b (by simp); have nc := hn c (by simp)
      rw [if_neg (by simp; rfl)]
      dsimp only [dNext, dSeq]
      refine ev_set (d := t) (ev_ixt (ev_var rfl) ev_m1 rfl (fz_isFz (fz_of_nice nt))) (fz_of_nice nt) ?_
      refine et_if (time_chk nt rfl) ?_
      cases ht : isIntB 0 1000000000 t
      · rw [ht] at h
        exact ev_retP ev_c fun _ => h
      rw [ht] at h
      rw [if_neg (by decide)]
      dsimp only [dNext]
      refine ev_if (c := false) (ev_len (ds := [a, b, c, t]) rfl rfl) ?_
      refine ev_retP (d := .bl (eqK a "set" && (inB outs b && isBlB c))) (ev_andV (ev_bin (ev_ixt (ev_var (d := .tup [a, b, c, t]) rfl) ev_c rfl (fz_isFz (fz_of_nice na))) ev_c (eq_str (hf a (by simp)) (by decide +kernel))) fun _ => ev_andV (ev_bin (ev_ixt (ev_var (d := .tup [a, b, c, t]) rfl) ev_c rfl (fz_isFz (fz_of_nice nb))) (evv_call1 (a := .tup (sDs outs)) (d := .lst true (sDs outs)) (ev_ixt (ev_var (d := .tup ks) (by rw [ek]; rfl)) ev_c (atI_nat hk.o1) (isFz_sDsT outs)) (if_pos (isFzs_sDs outs))).ev (in_lstS hk.ok (hf b (by simp)))) fun _ => ?_) fun _ => h
      · obtain ⟨T, hT⟩ := D.nice_ty nc
        rw [← isa_bool hT]
        exact ev_isi (ev_ixt (ev_var (d := .tup [a, b, c, t]) rfl) ev_c rfl (fz_isFz (fz_of_nice nc))) hT
    | [], h => exact ev_retP ev_c fun _ => h
    | [_], h => exact ev_retP ev_c fun _ => by rw [show isEnt' outs _ = false from rfl, Bool.and_false] at h; exact h
    | [_, _], h => exact ev_retP ev_c fun _ => by rw [show isEnt' outs _ = false from rfl, Bool.and_false] at h; exact h
    | a :: b :: c :: e :: f :: r, h =>
      rw [if_pos (by
        rw [decide_eq_false (show ¬ ((3 : Int) = ((a :: b :: c :: e :: f :: r).length : Int)) by simp only [List.length_cons]; omega), decide_eq_false (show ¬ ((4 : Int) = ((a :: b :: c :: e :: f :: r).length : Int)) by simp only [List.length_cons]; omega)]
        rfl)]
      exact ev_retP ev_c fun _ => by rw [show isEnt' outs _ = false from rfl, Bool.and_false] at h; exact h
  | opq => cases hd
  | _ => exact et_if (et_or (b := false) (et_not (et_tru (ev_isi (ev_var rfl) rfl))) fun z => absurd z (by decide)) (ev_retP ev_c fun _ => h)
end KW
set_option maxHeartbeats 1000000
/-! KX4: sorted ints; the law's own check of rows, exactly. -/
namespace KW
open PySem PySem.Spec L2
open PyProof.Rows hiding St

abbrev iDs (l : List Int) : List D := l.map .int
theorem le_int (a b : Int) : D.le (.int a) (.int b) = decide (a ≤ b) := by
  show PySem.W.dataLe false (fun i : Int => PyData.int i) a b = _
  rw [PySem.W.dataLe_int (fun i => i)]
theorem sort_ints (l : List Int) : (iDs l).mergeSort D.le = iDs (l.mergeSort fun a b => decide (a ≤ b)) :=
  (List.map_mergeSort (r := fun a b => decide (a ≤ b)) (s := D.le) (f := D.int) (l := l) fun a _ b _ => (le_int a b).symm).symm
theorem flat_int (i : Int) : (D.int i).flatEq = true := rfl
theorem all_ints {l : List Int} {P : D → Prop} (h : ∀ i, P (.int i)) : ∀ d ∈ iDs l, P d := fun d hd => by
  obtain ⟨i, _, rfl⟩ := List.mem_map.mp hd
  exact h i
theorem py_ints (l : List Int) : (iDs l).map D.py = l.map PyData.int := by rw [List.map_map]; rfl
theorem sortD_ints {o : Bool} (l : List Int) : sortD [.lst o (iDs l)] = some (.lst true (iDs (l.mergeSort fun a b => decide (a ≤ b)))) := by
  rw [← sort_ints]
  refine if_pos ⟨isFzs_ints l, all_ints flat_int, fun d hd e he => ?_, .inr fun d hd => ?_⟩
  · rw [py_ints] at hd he
    obtain ⟨i, _, rfl⟩ := List.mem_map.mp hd
    obtain ⟨j, _, rfl⟩ := List.mem_map.mp he
    rfl
  · rw [py_ints] at hd
    obtain ⟨i, _, rfl⟩ := List.mem_map.mp hd
    exact ⟨(fun z => nomatch z), fun _ z => nomatch z⟩
theorem flat_ints {o : Bool} (l : List Int) : (D.lst o (iDs l)).flatEq = true := by
  have h1 : ∀ l : List Int, PyData.canLayAll0 (D.pys (iDs l)) = true := fun l => by
    induction l with
    | nil => rfl
    | cons i l ih => exact ih
  have h2 : ∀ l : List Int, PyData.depthAll (D.pys (iDs l)) = 0 := fun l => by
    induction l with
    | nil => rfl
    | cons i l ih => show max 0 (PyData.depthAll (D.pys (iDs l))) = 0; rw [ih]; rfl
  have h3 : D.plains (iDs l) = true := by rw [D.plains_eq, List.all_eq_true]; exact all_ints fun _ => rfl
  unfold D.flatEq
  rw [D.plain, h3, D.py, PyData.canLay0, h1, PyData.depth, h2]; rfl
theorem eqv_ints : ∀ l m : List Int, PyData.eqvAll (D.pys (iDs l)) (D.pys (iDs m)) = decide (l = m)
  | [], [] => rfl
  | [], _ :: _ => rfl
  | _ :: _, [] => rfl
  | i :: l, j :: m => by
    show (decide (i = j) && PyData.eqvAll (D.pys (iDs l)) (D.pys (iDs m))) = _
    rw [eqv_ints l m, ← Bool.decide_and]
    congr 1
    simp
theorem eq_ints {o o' : Bool} (l m : List Int) : eqD (.lst o (iDs l)) (.lst o' (iDs m)) = some (.bl (decide (l = m))) := by
  unfold eqD
  rw [flat_ints, flat_ints, ← eqv_ints]
  show some (D.bl (PyData.eqv (D.py (.lst o (iDs l))) (D.py (.lst o' (iDs m))))) = _
  rw [D.py, D.py, PyData.eqv]
theorem adj_pair {α : Type} (f : α → Int) : ∀ l : List α, ((l.zip (l.drop 1)).all fun p => decide (f p.1 ≤ f p.2)) = true ↔ (l.map f).Pairwise (· ≤ ·)
  | [] => by simp
  | [a] => by simp
  | a :: b :: l => by
    have ih := adj_pair f (b :: l)
    have e : ((a :: b :: l).zip ((a :: b :: l).drop 1)).all (fun p => decide (f p.1 ≤ f p.2)) = (decide (f a ≤ f b) && (((b :: l).zip ((b :: l).drop 1)).all fun p => decide (f p.1 ≤ f p.2))) := rfl
    rw [e, Bool.and_eq_true, ih, decide_eq_true_eq, List.map_cons]
    constructor
    · intro ⟨h, hp⟩
      refine List.pairwise_cons.mpr ⟨fun x hx => ?_, hp⟩
      rcases List.mem_cons.mp hx with rfl | hx
      · exact h
      · have := (List.pairwise_cons.mp hp).1 x hx
        omega
    · intro hh
      obtain ⟨h, hp⟩ := List.pairwise_cons.mp hh
      exact ⟨h (f b) (by simp), hp⟩
theorem sorted_iff (l : List Int) : decide (l = l.mergeSort fun a b => decide (a ≤ b)) = decide (l.Pairwise (· ≤ ·)) := by
  congr 1
  apply propext
  constructor
  · intro h
    have := List.pairwise_mergeSort (le := fun a b : Int => decide (a ≤ b)) (fun a b c h1 h2 => by simp at *; omega) (fun a b => by simp; omega) l
    rw [← h] at this
    exact this.imp fun h => by simpa using h
  · intro h
    exact (List.mergeSort_of_pairwise (h.imp fun h => by simpa using h)).symm
theorem in_false {p : D → Bool} {o : Bool} (l : List D) : inO (.bl false) (.lst o (l.map fun x => .bl (p x))) = some (.bl (!l.all p)) := by
  have h1 : (l.map fun x => D.bl (p x)).all D.flatEq = true := by
    rw [List.all_eq_true]
    intro x hx
    obtain ⟨y, _, rfl⟩ := List.mem_map.mp hx
    rfl
  have h2 : ∀ l : List D, ((l.map fun x => D.bl (p x)).any fun z => z.eqv (.bl false)) = !l.all p := fun l => by
    induction l with
    | nil => rfl
    | cons x l ih =>
      rw [List.map_cons, List.any_cons, ih, List.all_cons, Bool.not_and]
      congr 1
      cases p x <;> rfl
  show ((if (true && (l.map fun x => D.bl (p x)).all D.flatEq) = true then some ((l.map fun x => D.bl (p x)).any fun z => z.eqv (.bl false)) else none).map D.bl) = _
  rw [h1, h2]; rfl
theorem wis_row_ok {k d : D} {ks : List D} {outs : List Str} {Q : D → Prop} (hk : KOk k ks outs) (hd : AskRow d) (h : Q (.bl (isRowB outs d))) : F_wis_row [k, d] Q := by
  show rd_wis_row _ [some k, some d, none, none]
  unfold rd_wis_row
  have fk := fz_of_nice hk.nc
  cases d with
  | lst o ds =>
    obtain ⟨ho, hl, hn⟩ := nice_lst hd.1
    subst ho
    have hq := hd.2 _ _ rfl
    have hf := fz_of_nice hd.1
    have h : Q (.bl (decide ((ds.length : Int) ≤ 300) && ds.all (isEntB outs) && (ds.zip (ds.drop 1)).all leT)) := h
    refine et_if (et_or (et_not (et_tru (ev_isi (ev_var rfl) rfl))) fun _ => et_tst (ev_gt (ev_lenL (ev_var rfl)) ev_c)) ?_
    show if decide (300 < (ds.length : Int)) = true then _ else _
    rw [← gt_le]
    cases h1 : decide ((ds.length : Int) ≤ 300)
    · rw [h1] at h
      exact ev_retP ev_c fun _ => h
    rw [h1] at h
    rw [if_neg (by decide)]
    dsimp only [dNext, dSeq]
    refine et_if (et_tst (ev_bin (f := inO) ev_c (evv_comp (f := fun x => .bl (isEntB outs x)) (ei_iter (ev_var rfl) hf rfl) hl rfl (fun x hx => ev_callN (ez_fz (ev_var rfl) (ez_fz (ev_var rfl) ez_nil (fz_of_nice (hn x hx))) fk) rfl fun Q q => wis_entry_ok hk (hn x hx) (hq x hx) q) fun _ => rfl).ev (in_false ds))) ?_
    cases h2 : ds.all (isEntB outs)
    · rw [h2] at h
      exact ev_retP ev_c fun _ => h
    rw [h2] at h
    rw [if_neg (by decide)]
    dsimp only [dNext, dSeq]
    have ha := List.all_eq_true.mp h2
    refine evv_comp (ρ := [some k, some (.lst false ds), none, none]) (f := fun x => .int (timeOf x)) (ei_iter (ev_var rfl) hf rfl) hl rfl (fun x hx => ev_last (ha x hx) (ev_var rfl)) (fun _ => rfl) _ ?_
    have e : ds.map (fun x => D.int (timeOf x)) = iDs (ds.map timeOf) := by unfold iDs; rw [List.map_map]; rfl
    show dRet (dBin eqD (dVar 2) (dCall sortD (dCons (dVar 2) dNil))) { nx := fun _ => Q .non, rt := fun d _ => Q d } [some k, some (.lst false ds), some (.lst true (ds.map fun x => D.int (timeOf x))), none]
    rw [e]
    show dRet (dBin eqD (dVar 2) (dCall sortD (dCons (dVar 2) dNil))) { nx := fun _ => Q .non, rt := fun d _ => Q d } [some k, some (.lst false ds), some (.lst true (iDs (ds.map timeOf))), none]
    refine ev_retP (ρ := [some k, some (.lst false ds), some (.lst true (iDs (ds.map timeOf))), none]) (ev_bin (ev_var (i := 2) (d := .lst true (iDs (ds.map timeOf))) rfl) (evv_call1 (ev_var (i := 2) (d := .lst true (iDs (ds.map timeOf))) rfl) (sortD_ints _)).ev (eq_ints _ _)) fun _ => ?_
    rw [sorted_iff]
    have e2 : (ds.zip (ds.drop 1)).all leT = decide ((ds.map timeOf).Pairwise (· ≤ ·)) := by
      have := adj_pair timeOf ds
      rw [Bool.eq_iff_iff, decide_eq_true_eq]
      exact this
    rw [e2] at h
    exact h
  | opq => cases hd.1
  | _ => exact et_if (et_or (b := false) (et_not (et_tru (ev_isi (ev_var rfl) rfl))) fun z => absurd z (by decide)) (ev_retP ev_c fun _ => h)
end KW
set_option maxHeartbeats 1000000
/-! KX5: letters, rows that are drawn. -/
namespace KW
open PySem PySem.Spec L2
open PyProof.Rows hiding St

def LetS (s : Str) : Prop := ∃ c, s = ⟨#[c]⟩ ∧ isLet c = true
theorem LetS.lets {s : Str} (h : LetS s) : isLets s = true := by
  obtain ⟨c, rfl, h⟩ := h
  rw [isLet_sg]; exact h
theorem LetS.len {s : Str} (h : LetS s) : s.length = 1 := by
  obtain ⟨c, rfl, h⟩ := h
  rfl
theorem lets_ok {s : Str} (h : isLets s = true) : PyData.strOk s = true := by
  refine okS_iff.mpr fun c hc => ?_
  have := List.all_eq_true.mp h c hc
  rw [isLet_rng, Bool.and_eq_true, decide_eq_true_eq, decide_eq_true_eq] at this
  omega
def chS (x : Str) : List Str := x.cps.toList.map fun c => ⟨#[c]⟩
theorem chD_sDs (x : Str) : chD x = sDs (chS x) := by unfold chD sDs chS; rw [List.map_map]; rfl
theorem chS_let {x : Str} (h : isLets x = true) : ∀ s ∈ chS x, LetS s := fun s hs => by
  obtain ⟨c, hc, rfl⟩ := List.mem_map.mp hs
  exact ⟨c, rfl, List.all_eq_true.mp h c hc⟩
theorem sortD_strs {o : Bool} {l : List Str} (h : ∀ s ∈ l, PyData.strOk s = true) : ∃ l' : List Str, l'.Perm l ∧ sortD [.lst o (sDs l)] = some (.lst true (sDs l')) := by
  refine ⟨l.mergeSort fun a b => D.le (.str a) (.str b), List.mergeSort_perm _ _, ?_⟩
  have e : (sDs l).mergeSort D.le = sDs (l.mergeSort fun a b => D.le (.str a) (.str b)) :=
    (List.map_mergeSort (r := fun a b => D.le (.str a) (.str b)) (s := D.le) (f := D.str) (l := l) fun a _ b _ => rfl).symm
  rw [← e]
  refine if_pos ⟨isFzs_sDs l, fun d hd => ?_, fun d hd e he => ?_, .inr fun d hd => ?_⟩
  · obtain ⟨s, hs, rfl⟩ := List.mem_map.mp hd
    exact flat_str (h s hs)
  · obtain ⟨x, hx, rfl⟩ := List.mem_map.mp hd
    obtain ⟨y, hy, rfl⟩ := List.mem_map.mp he
    obtain ⟨s, _, rfl⟩ := List.mem_map.mp hx
    obtain ⟨t, _, rfl⟩ := List.mem_map.mp hy
    rfl
  · obtain ⟨x, hx, rfl⟩ := List.mem_map.mp hd
    obtain ⟨s, _, rfl⟩ := List.mem_map.mp hx
    exact ⟨(fun z => nomatch z), fun _ z => nomatch z⟩
theorem wletters_ok {n : Nat} {d : D} {k : KM} {Q : D → D → Prop} (hp : PenOk n d) (hn : n + 3000 ≤ 2 ^ 30) (hk : k.Ok) (h : ∀ (l : List Str) d', (∀ s ∈ l, LetS s) → l ≠ [] → l.length ≤ 65 → PenOk (n + 1) d' → Q (.lst true (sDs l)) d') : F_wletters d [k.toD] Q := by
  show rd_wletters _ [some d, some k.toD, none, none, none, none, none]
  unfold rd_wletters
  dsimp only [dSeq, dSet, dLstE, zFz, dBin, dC]
  refine io_take (ρ := [some d, some k.toD, none, none, none, none, none]) (d0 := d) (ds := [.int 26]) rfl (ez_fz ev_c ez_nil) rfl (take_ok hp (by omega) (by decide) (by decide) fun r d1 r0 r1 hp1 => ?_)
  obtain ⟨c, hc, hcl⟩ : ∃ c : Nat, ixD (.str "abcdefghijklmnopqrstuvwxyz") (.int r) = some (.str ⟨#[c]⟩) ∧ isLet c = true := by
    obtain ⟨m, rfl⟩ : ∃ m : Nat, r = (m : Int) := ⟨r.toNat, by omega⟩
    have hm : m < 26 := by omega
    exact (show ∀ m : Nat, m < 26 → ∃ c : Nat, ixD (.str "abcdefghijklmnopqrstuvwxyz") (.int (m : Int)) = some (.str ⟨#[c]⟩) ∧ isLet c = true from fun m hm => by
      refine ⟨97 + m, ?_, by rw [isLet_rng, decide_eq_true (by omega), decide_eq_true (by omega)]; rfl⟩
      match m, hm with
      | 0, _ | 1, _ | 2, _ | 3, _ | 4, _ | 5, _ | 6, _ | 7, _ | 8, _ | 9, _ | 10, _ | 11, _ | 12, _ | 13, _ | 14, _ | 15, _ | 16, _ | 17, _ | 18, _ | 19, _ | 20, _ | 21, _ | 22, _ | 23, _ | 24, _ | 25, _ => rfl
      | m + 26, hm => omega) m hm
  refine ⟨_, rfl, _, rfl, _, hc, .str ⟨#[c]⟩, _, rfl, by show 1 ≤ sizeLine; decide, _, _, rfl, ?_⟩
  dsimp only [dFor]
  have e3 : (D.tup (k.layers.map layD)).fz = .tup (k.layers.map layD) := by rw [D.fz, fzs_map _ layD_fz]
  refine ei_iter (ρ := [some d1, some k.toD, some (.lst true (sDs [⟨#[c]⟩])), none, none, none, none]) (d := .tup (k.layers.map layD)) (ds := k.layers.map layD) (ev_ixt (ds := [.tup (sDs k.flags), .tup (sDs k.outside), .dct false (cmdsD k.cmds), .tup (k.layers.map layD), .int k.wait]) (ev_var rfl) ev_c rfl (fz_isFz e3)) e3 rfl _ ?_
  refine for_ind (fun ds ρ => ∃ (ls : List (List Bnd)) (l : List Str) (x y z u : Option D), ds = ls.map layD ∧ (∀ b ∈ ls, b ∈ k.layers) ∧ (∀ s ∈ l, LetS s) ∧ l ≠ [] ∧ l.length + 4 * (ls.map List.length).sum ≤ 65 ∧ ρ = [some d1, some k.toD, some (.lst true (sDs l)), x, y, z, u]) (fun ρ hI => ?_) (fun R f ds ρ hI kk => ?_) _ _ ⟨k.layers, [⟨#[c]⟩], none, none, none, none, rfl, fun b hb => hb, fun s hs => by rw [List.mem_singleton.mp hs]; exact ⟨c, rfl, hcl⟩, by simp, by have := hk.tot; show 1 + 4 * _ ≤ 65; omega, rfl⟩
  · obtain ⟨ls, l, x, y, z, u, e0, _, hl, l0, ll, rfl⟩ := hI
    obtain ⟨l', hperm, es⟩ := sortD_strs (o := true) fun s hs => lets_ok (hl s hs).lets
    refine evv_ret (evv_call1 (ev_var (d := .lst true (sDs l)) rfl) es) ⟨d1, rfl, h l' d1 (fun s hs => hl s (hperm.mem_iff.mp hs)) (fun z => l0 (by rw [z] at hperm; exact List.perm_nil.mp hperm.symm)) (by rw [hperm.length_eq]; omega) hp1⟩
  · obtain ⟨ls, l, x, y, z, u, e0, hm, hl, l0, ll, rfl⟩ := hI
    match ls, e0, hm, ll with
    | [], e0, _, _ => cases e0
    | lay :: ls, e0, hm, ll =>
      obtain ⟨rfl, rfl⟩ := List.cons.inj e0
      rw [List.map_cons, List.sum_cons] at ll
      dsimp only [gN, dFor]
      have e4 : (layD lay).fz = layD lay := layD_fz lay
      refine ei_iter (ρ := [some d1, some k.toD, some (.lst true (sDs l)), some (layD lay), y, z, u]) (d := layD lay) (ds := lay.map Bnd.toD) (ev_var rfl) e4 rfl _ ?_
      refine for_ind (fun ds ρ => ∃ (bs : List Bnd) (l : List Str) (y z u : Option D), ds = bs.map Bnd.toD ∧ (∀ b ∈ bs, b ∈ lay) ∧ (∀ s ∈ l, LetS s) ∧ l ≠ [] ∧ l.length + 4 * bs.length + 4 * (ls.map List.length).sum ≤ 65 ∧ ρ = [some d1, some k.toD, some (.lst true (sDs l)), some (layD lay), y, z, u]) (fun ρ hI => ?_) (fun R f ds ρ hI kk' => ?_) _ _ ⟨lay, l, y, z, u, rfl, fun b hb => hb, hl, l0, by omega, rfl⟩
      · obtain ⟨bs, l, y, z, u, eb, _, hl, l0, ll, rfl⟩ := hI
        exact kk _ ⟨ls, l, _, _, _, _, rfl, fun b hb => hm b (List.mem_cons_of_mem _ hb), hl, l0, by omega, rfl⟩
      · obtain ⟨bs, l, y, z, u, eb, hb, hl, l0, ll, rfl⟩ := hI
        match bs, eb, hb, ll with
        | [], eb, _, _ => cases eb
        | b :: bs, eb, hb, ll =>
          obtain ⟨rfl, rfl⟩ := List.cons.inj eb
          rw [List.length_cons] at ll
          have ok := hk.bd lay (hm lay List.mem_cons_self) b (hb b List.mem_cons_self)
          have kz : b.keys.cps.size ≤ 4 := ok.k1
          have cl : (chS b.keys).length ≤ 4 := by unfold chS; rw [List.length_map, Array.length_toList]; exact kz
          refine ⟨_, rfl, rfl, _, _, rfl, _, _, rfl, _, _, rfl, rfl, ?_⟩
          refine evv_set (ρ := [some d1, some k.toD, some (.lst true (sDs l)), some (layD lay), some (.str b.keys), some (.dct false (effD b.cond)), some (cmdD b.cmd)]) (d := .lst true (sDs l ++ sDs (chS b.keys))) (ev_catL (ev_var rfl) (evv_call1 (a := .str b.keys) (d := .lst true (sDs (chS b.keys))) (ev_var rfl) (by rw [← chD_sDs]; exact if_pos (Nat.le_trans kz (by decide)))).ev ⟨by rw [List.length_map, List.length_map]; exact Nat.le_trans (show l.length + (chS b.keys).length ≤ 100 by omega) (by decide), isFzs_sDs _, isFzs_sDs _⟩) ?_
          have e5 : sDs l ++ sDs (chS b.keys) = sDs (l ++ chS b.keys) := by unfold sDs; rw [List.map_append]
          rw [e5]
          refine kk' _ ⟨bs, l ++ chS b.keys, _, _, _, rfl, fun c hc => hb c (List.mem_cons_of_mem _ hc), fun s hs => (List.mem_append.mp hs).elim (hl s) (chS_let ok.kl s), by simp [l0], by rw [List.length_append]; omega, rfl⟩
end KW
set_option maxHeartbeats 1000000
/-! KX6: rows that are drawn. -/
namespace KW
open PySem PySem.Spec L2
open PyProof.Rows hiding St

inductive Ent where
  | key (c : Str) (t : Int)
  | set (f : Str) (b : Bool) (t : Int)
def Ent.toD : Ent → D
  | .key c t => .tup [.str "key", .str c, .int t]
  | .set f b t => .tup [.str "set", .str f, .bl b, .int t]
def Ent.time : Ent → Int
  | .key _ t => t
  | .set _ _ t => t
def Ent.Ok (k : KM) : Ent → Prop
  | .key c _ => LetS c
  | .set f _ _ => f ∈ k.outside
theorem Ent.fz (e : Ent) : e.toD.fz = e.toD := by cases e <;> rfl
/-- a drawn row -/
structure RowOk (k : KM) (es : List Ent) : Prop where
  ok : ∀ e ∈ es, e.Ok k
  asc : (es.map Ent.time).Pairwise (· ≤ ·)
  lo : ∀ e ∈ es, 0 ≤ e.time
  hi : ∀ e ∈ es, e.time ≤ 10 + 3000 * es.length
abbrev eDs (es : List Ent) : List D := es.map Ent.toD
theorem isFzs_eDs (es : List Ent) : D.isFzs (eDs es) = true := isFzs_map _ (fun e => fz_isFz e.fz) es
theorem rng_take {n : Nat} {d : D} {m : Int} {t : TDZ} {g : TGD} {tb : TDS} {Dd : EndsD} {ρ : Env} (h0 : ρ.getD 0 none = some d) (h : Ez t ρ [.int m]) (hp : PenOk n d) (hn : n ≤ 2 ^ 30) (m0 : 0 < m) (m1 : m < 2 ^ 30) (k : ∀ (r : Nat) d', (r : Int) < m → PenOk (n + 1) d' → forD g tb Dd ((List.range r).map fun i : Nat => .int (0 + (i : Int))) (ρ.set 0 (some d'))) : dFor (dRng1 (zFz (dCallI 0 2 F_take t) zNil)) g tb Dd ρ := by
  dsimp only [dFor, dRng1, zFz]
  refine io_take (d0 := d) h0 h rfl (take_ok hp hn m0 m1 fun r d' r0 r1 hp' => ⟨.int r, _, rfl, r, rfl, by omega, by omega, ?_⟩)
  obtain ⟨r, rfl⟩ : ∃ m : Nat, r = (m : Int) := ⟨r.toNat, by omega⟩
  exact k r d' r1 hp'
theorem if_and2 {t u : TDT} {A B : TDS} {Dd : EndsD} {ρ : Env} {c : Bool} (h : Et t ρ c) (k1 : c = true → u ρ fun b ρ1 => if b = true then A Dd ρ1 else B Dd ρ1) (k2 : c = false → B Dd ρ) : dIfS (dAnd t u) A B Dd ρ := h _ (by
  cases c
  · exact k2 rfl
  · exact k1 rfl)
/-- a step of the row's draw: a new entry, a later time -/
theorem wrow_ok {n : Nat} {d : D} {k : KM} {most : Int} {Q : D → D → Prop} (hp : PenOk n d) (hn : n + 3000 ≤ 2 ^ 30) (hk : k.Ok) (m0 : 0 ≤ most) (m1 : most ≤ 300) (h : ∀ (es : List Ent) d', RowOk k es → (es.length : Int) ≤ most → PenOk (n + 3 + 4 * most.toNat) d' → Q (.lst true (eDs es)) d') : F_wrow d [k.toD, .int most] Q := by
  show rd_wrow _ [some d, some k.toD, some (.int most), none, none, none, none, none]
  unfold rd_wrow
  dsimp only [dSeq, dPar, zTake]
  have e1 : k.toD.fz = k.toD := KM.fz k
  refine io_take (ρ := [some d, some k.toD, some (.int most), none, none, none, none, none]) (d0 := d) (ds := [k.toD]) rfl (ez_fz (d := k.toD) (ev_var rfl) ez_nil e1) rfl (wletters_ok hp hn hk fun ls d1 hls l0 ll hp1 => ?_)
  refine ⟨.lst true (sDs ls), _, rfl, ?_⟩
  have kwait : ∀ (ρ : Env), ρ.getD 1 none = some k.toD → Ev (dBin ixD (dVar 1) (dC (.int 4))) ρ (.int k.wait) := fun ρ g => ev_ixt (ds := [.tup (sDs k.flags), .tup (sDs k.outside), .dct false (cmdsD k.cmds), .tup (k.layers.map layD), .int k.wait]) (ev_var g) ev_c rfl rfl
  have kout : ∀ (ρ : Env), ρ.getD 1 none = some k.toD → Ev (dBin ixD (dVar 1) (dC (.int 1))) ρ (.tup (sDs k.outside)) := fun ρ g => ev_ixt (ds := [.tup (sDs k.flags), .tup (sDs k.outside), .dct false (cmdsD k.cmds), .tup (k.layers.map layD), .int k.wait]) (ev_var g) ev_c rfl (isFz_sDsT _)
  refine kwait [some d1, some k.toD, some (.int most), none, none, none, none, none] rfl _ fun x hx => ⟨.int k.wait, _, take_fz hx rfl, _, _, rfl, ?_⟩
  refine evv_set (d := .lst true []) (ev_lst ez_nil (by show 0 ≤ sizeLine; decide)) ?_
  dsimp only [dSet]
  refine io_take (ρ := [some d1, some k.toD, some (.int most), some (.lst true (sDs ls)), some (.int k.wait), some (.lst true []), none, none]) (d0 := d1) (ds := [.lst false [.int 0, .int 0, .int 7]]) rfl (ez_fzV (d := .lst true [.int 0, .int 0, .int 7]) (ev_lst (ez_fz ev_c (ez_fz ev_c (ez_fz ev_c ez_nil))) (by show 3 ≤ sizeLine; decide)) ez_nil) rfl (pick_ok hp1 (by omega) (by simp) (by show 3 < _; decide) rfl fun x d2 hx hp2 => ?_)
  obtain ⟨T0, rfl, t0, t1⟩ : ∃ T : Int, x = .int T ∧ 0 ≤ T ∧ T ≤ 7 := by
    simp only [List.mem_cons, List.not_mem_nil, or_false] at hx
    rcases hx with rfl | rfl | rfl
    · exact ⟨_, rfl, by decide, by decide⟩
    · exact ⟨_, rfl, by decide, by decide⟩
    · exact ⟨_, rfl, by decide, by decide⟩
  refine ⟨.int T0, _, rfl, ?_⟩
  refine rng_take (ρ := [some d2, some k.toD, some (.int most), some (.lst true (sDs ls)), some (.int k.wait), some (.lst true []), some (.int T0), none]) (d := d2) (m := most + 1) rfl (ez_fz (ev_add (ev_var rfl) ev_c) ez_nil) hp2 (by omega) (by omega) (by omega) fun r d3 hr hp3 => ?_
  refine for_ind (fun ds ρ => ∃ (d : D) (o : Bool) (es : List Ent) (T : Int) (u : Option D), es.length + ds.length = r ∧ PenOk (n + 3 + 4 * es.length) d ∧ RowOk k es ∧ (∀ e ∈ es, e.time ≤ T) ∧ 0 ≤ T ∧ T ≤ 7 + 3000 * es.length ∧ ρ = [some d, some k.toD, some (.int most), some (.lst o (sDs ls)), some (.int k.wait), some (.lst true (eDs es)), some (.int T), u]) (fun ρ hI => ?_) (fun R f ds ρ hI kk => ?_) _ _ ⟨d3, true, [], T0, none, ?_, hp3, ⟨(fun _ z => nomatch z), List.Pairwise.nil, (fun _ z => nomatch z), (fun _ z => nomatch z)⟩, (fun _ z => nomatch z), t0, by show T0 ≤ 7 + 3000 * 0; omega, rfl⟩
  · obtain ⟨d, o, es, T, u, hl, hp, ro, _, _, _, rfl⟩ := hI
    rw [List.length_nil] at hl
    exact ret_var (d := .lst true (eDs es)) rfl ⟨d, rfl, h es d ro (by omega) (hp.mono (by omega))⟩
  · obtain ⟨d, o, es, T, u, hl, hp, ro, hT, T0, T1, rfl⟩ := hI
    rw [List.length_cons] at hl
    have tail : ∀ (Dd : EndsD), Dd.nx = R → ∀ (d' : D) (o' : Bool) (e : Ent), e.Ok k → e.time = T → PenOk (n + 3 + 4 * es.length + 3) d' → ∀ ρ, ρ = [some d', some k.toD, some (.int most), some (.lst o' (sDs ls)), some (.int k.wait), some (.lst true (eDs es ++ [e.toD])), some (.int T), some f] → dSet 6 (dBin addD (dVar 6) (dCallI 0 2 F_wpick (zFz (dLstE (zFz (dC (.int 0)) (zFz (dC (.int 0)) (zFz (dC (.int 1)) (zFz (dC (.int 1)) (zFz (dBin subD (dVar 4) (dC (.int 1))) (zFz (dVar 4) (zFz (dBin addD (dVar 4) (dC (.int 1))) (zFz (dBin mulD (dC (.int 3)) (dVar 4)) zNil))))))))) zNil))) Dd ρ := fun Dd hD d' o' e he ht hp' ρ eρ => by
      subst eρ
      have hw := hk.wt
      dsimp only [dSet, dBin]
      refine ⟨_, rfl, ?_⟩
      refine io_take (ρ := [some d', some k.toD, some (.int most), some (.lst o' (sDs ls)), some (.int k.wait), some (.lst true (eDs es ++ [e.toD])), some (.int T), some f]) (d0 := d') (ds := [.lst false (iDs [0, 0, 1, 1, k.wait - 1, k.wait, k.wait + 1, 3 * k.wait])]) rfl (ez_fzV (d := .lst true (iDs [0, 0, 1, 1, k.wait - 1, k.wait, k.wait + 1, 3 * k.wait])) (ev_lst (ez_fz ev_c (ez_fz ev_c (ez_fz ev_c (ez_fz ev_c (ez_fz (ev_sub (ev_var rfl) ev_c) (ez_fz (ev_var rfl) (ez_fz (ev_add (ev_var rfl) ev_c) (ez_fz (ev_mul ev_c (ev_var rfl) (.inl (by decide))) ez_nil)))))))) (by show 8 ≤ sizeLine; decide)) ez_nil) rfl (pick_ok hp' (by omega) (by simp) (by show 8 < _; decide) (isFzs_ints _) fun x d2 hx hp2 => ?_)
      obtain ⟨g, rfl, g0, g1⟩ : ∃ g : Int, x = .int g ∧ 0 ≤ g ∧ g ≤ 3000 := by
        obtain ⟨g, hg, rfl⟩ := List.mem_map.mp hx
        refine ⟨g, rfl, ?_⟩
        simp only [List.mem_cons, List.not_mem_nil, or_false] at hg
        omega
      refine ⟨_, rfl, _, rfl, _, rfl, _, _, rfl, ?_⟩
      rw [hD]
      have lz : (es ++ [e]).length = es.length + 1 := by rw [List.length_append, List.length_singleton]
      refine kk _ ⟨d2, o', es ++ [e], T + g, some f, by rw [lz]; omega, hp2.mono (by rw [lz]; omega), ⟨fun x hx => ?_, ?_, fun x hx => ?_, fun x hx => ?_⟩, fun x hx => ?_, by omega, by rw [lz]; omega, ?_⟩
      · rcases List.mem_append.mp hx with z | z
        · exact ro.ok x z
        · rw [List.mem_singleton.mp z]; exact he
      · rw [List.map_append, List.pairwise_append]
        refine ⟨ro.asc, List.pairwise_singleton _ _, fun a ha b hb => ?_⟩
        obtain ⟨x, hx, rfl⟩ := List.mem_map.mp ha
        rw [List.mem_singleton.mp hb, ht]
        exact hT x hx
      · rcases List.mem_append.mp hx with z | z
        · exact ro.lo x z
        · rw [List.mem_singleton.mp z, ht]; exact T0
      · rw [lz]
        rcases List.mem_append.mp hx with z | z
        · have := ro.hi x z; omega
        · rw [List.mem_singleton.mp z, ht]; omega
      · rcases List.mem_append.mp hx with z | z
        · have := hT x z; omega
        · rw [List.mem_singleton.mp z, ht]; omega
      · unfold eDs; rw [List.map_append]; rfl
    dsimp only [gN, dSeq]
    have lrow : (eDs es).length < sizeLine := by
      rw [List.length_map]
      exact Nat.lt_of_lt_of_le (show es.length < 302 by omega) (by decide)
    have B : ∀ (Dd : EndsD) (d' : D), (∀ (d' : D) (o' : Bool) (e : Ent), e.Ok k → e.time = T → PenOk (n + 3 + 4 * es.length + 3) d' → Dd.nx [some d', some k.toD, some (.int most), some (.lst o' (sDs ls)), some (.int k.wait), some (.lst true (eDs es ++ [e.toD])), some (.int T), some f]) → PenOk (n + 3 + 4 * es.length + 2) d' → dDrop (dMut 5 .list appendD (zTake (dTupE (zFz (dC (.str "key")) (zFz (dCallI 0 2 F_wpick (zFz (dVar 3) zNil)) (zFz (dVar 6) zNil)))) zNil)) Dd [some d', some k.toD, some (.int most), some (.lst o (sDs ls)), some (.int k.wait), some (.lst true (eDs es)), some (.int T), some f] := fun Dd d' tl hp' => by
      refine ⟨⟨_, rfl, rfl⟩, .str "key", _, rfl, ⟨d', rfl⟩, _, rfl, .lst false (sDs ls), [some d', some k.toD, some (.int most), some (.lst false (sDs ls)), some (.int k.wait), some (.lst true (eDs es)), some (.int T), some f], ?_, rfl, d', rfl, ?_⟩
      · show some ((D.lst o (sDs ls)).fz, [_, _, _, some (D.lst o (sDs ls)).fz, _, _, _, _]) = _
        rw [D.fz, fzs_sDs]
      refine pick_ok hp' (by omega) (by simp [l0]) (by rw [List.length_map]; omega) (isFzs_sDs _) fun x d2 hx hp2 => ?_
      obtain ⟨s, hs, rfl⟩ := List.mem_map.mp hx
      refine ⟨.str s, _, rfl, _, rfl, .int T, _, rfl, by show 3 ≤ sizeLine; decide, _, _, rfl, _, rfl, _, _, if_pos lrow, ?_⟩
      exact tl d2 false (.key s T) (hls s hs) rfl (hp2.mono (by omega))
    have eρ : [some d, some k.toD, some (.int most), some (.lst o (sDs ls)), some (.int k.wait), some (.lst true (eDs es)), some (.int T), u].set 7 (some f) = [some d, some k.toD, some (.int most), some (.lst o (sDs ls)), some (.int k.wait), some (.lst true (eDs es)), some (.int T), some f] := rfl
    rw [eρ]
    have hE : Et (dTst (dBin gtD (dCall lenD (dCons (dBin ixD (dVar 1) (dC (.int 1))) dNil)) (dC (.int 0)))) [some d, some k.toD, some (.int most), some (.lst o (sDs ls)), some (.int k.wait), some (.lst true (eDs es)), some (.int T), some f] (decide (0 < (((sDs k.outside).length : Nat) : Int))) := et_tst (ev_gt (ev_lenT (kout _ rfl)) ev_c)
    refine if_and2 hE (fun hc => ?_) (fun hc => ?_)
    · refine tt_eq (ρ := [some d, some k.toD, some (.int most), some (.lst o (sDs ls)), some (.int k.wait), some (.lst true (eDs es)), some (.int T), some f]) (by decide) (by decide) hp (by omega) rfl fun b d1' hp1' => ?_
      cases b with
      | false =>
        refine B _ d1' ?_ (hp1'.mono (by omega))
        intro d' o' e he ht hp'
        refine tail _ ?_ d' o' e he ht hp' _ rfl
        rfl
      | true =>
        have hout : sDs k.outside ≠ [] := fun z => by rw [z] at hc; cases hc
        have hol : (sDs k.outside).length ≤ 3 := by
          rw [List.length_map]
          have := hk.outS.length_le
          have := hk.flL
          omega
        refine ⟨⟨_, rfl, rfl⟩, .str "set", _, rfl, ⟨d1', rfl⟩, ?_⟩
        refine kout _ rfl _ fun x hx => ⟨.tup (sDs k.outside), _, fz_fz' hx (fz_tupS _), rfl, d1', rfl, ?_⟩
        refine pickT_ok hp1' (by omega) hout (by omega) (isFzs_sDs _) fun x d2 hx hp2 => ?_
        obtain ⟨s, hs, rfl⟩ := List.mem_map.mp hx
        refine ⟨.str s, _, rfl, ?_⟩
        dsimp only [zFz, dBin]
        refine io_take (ρ := [some d2, some k.toD, some (.int most), some (.lst o (sDs ls)), some (.int k.wait), some (.lst true (eDs es)), some (.int T), some f]) (d0 := d2) (ds := [.int 2]) rfl (ez_fz ev_c ez_nil) rfl (take_ok hp2 (by omega) (by decide) (by decide) fun r d3 r0 r1 hp3 => ?_)
        refine ⟨_, rfl, _, rfl, _, eq_i r 0, _, _, rfl, _, rfl, .int T, _, rfl, by show 4 ≤ sizeLine; decide, _, _, rfl, _, rfl, _, _, if_pos lrow, ?_⟩
        refine tail _ ?_ d3 o (.set s (decide (r = 0)) T) hs rfl (hp3.mono (by omega)) _ rfl
        rfl
    · refine B _ d ?_ (hp.mono (by omega))
      intro d' o' e he ht hp'
      refine tail _ ?_ d' o' e he ht hp' _ rfl
      rfl
  · rw [List.length_map, List.length_range]; exact Nat.zero_add r
end KW
set_option maxHeartbeats 400000
/-! KX7: flat values; words with a wrong sign. -/
namespace KW
open PySem PySem.Spec L2
open PyProof.Rows hiding St

/-- flat values, not deep, not long -/
structure Gv (n w : Nat) (d : D) : Prop where
  nc : d.nice = true
  sh : Sh n w d
  ly : d.py.canLay0 = true
theorem Gv.mono {n w n' w' : Nat} {d : D} (h : Gv n w d) (hn : n ≤ n') (hw : w ≤ w') : Gv n' w' d := ⟨h.nc, h.sh.mono hn hw, h.ly⟩
theorem Gv.flat {n w : Nat} {d : D} (h : Gv n w d) (hn : n ≤ 64) : d.flatEq = true := by
  unfold D.flatEq
  rw [h.sh.pl, h.ly, decide_eq_true (Nat.le_trans h.sh.dp hn)]; rfl
theorem Gv.fz {n w : Nat} {d : D} (h : Gv n w d) : d.fz = d := fz_of_nice h.nc
theorem Gv.non : Gv 0 1930 .non := ⟨rfl, Sh.non.mono (by decide) (by decide), rfl⟩
theorem Gv.bl (b : Bool) : Gv 0 1930 (.bl b) := ⟨rfl, (Sh.bl b).mono (by decide) (by decide), rfl⟩
theorem Gv.int {i : Int} (h : i.natAbs.log2 < 1920) : Gv 0 1930 (.int i) := ⟨rfl, (Sh.int h).mono (by decide) (by decide), rfl⟩
theorem Gv.str {s : Str} (h : okS s) (hl : s.length ≤ 190) : Gv 0 1930 (.str s) :=
  ⟨by rw [D.nice, Bool.and_eq_true, decide_eq_true_eq]; exact ⟨h, Nat.le_trans hl (by decide)⟩, (Sh.str h hl).mono (by decide) (by decide), h⟩
theorem layAll {ds : List D} (h : ∀ x ∈ ds, x.py.canLay0 = true) : PyData.canLayAll0 (D.pys ds) = true := by
  induction ds with
  | nil => rfl
  | cons x r ih =>
    rw [D.pys, PyData.canLayAll0, h x List.mem_cons_self, ih fun y hy => h y (List.mem_cons_of_mem _ hy)]; rfl
theorem Gv.tup {n w m : Nat} {ds : List D} (h : ∀ x ∈ ds, Gv n w x) (hl : ds.length ≤ m) (hm : m ≤ sizeLine) : Gv (n + 1) (m * (w + 2) + 4) (.tup ds) :=
  ⟨nice_tup_of (Nat.le_trans hl hm) fun d hd => (h d hd).nc, Sh.tup (fun d hd => (h d hd).sh) hl, by rw [D.py, PyData.canLay0]; exact layAll fun d hd => (h d hd).ly⟩
theorem Gv.lst {n w m : Nat} {ds : List D} (h : ∀ x ∈ ds, Gv n w x) (hl : ds.length ≤ m) (hm : m ≤ sizeLine) : Gv (n + 1) (m * (w + 2) + 4) (.lst false ds) :=
  ⟨nice_lst_of (Nat.le_trans hl hm) fun d hd => (h d hd).nc, Sh.lst (fun d hd => (h d hd).sh) hl, by rw [D.py, PyData.canLay0]; exact layAll fun d hd => (h d hd).ly⟩
/-- atoms, short tuples or lists of atoms, entries -/
abbrev A0 (d : D) : Prop := Gv 0 1930 d
abbrev A1 (d : D) : Prop := Gv 1 9700 d
abbrev A2 (d : D) : Prop := Gv 2 48600 d
theorem A0.a1 {d : D} (h : A0 d) : A1 d := h.mono (by decide) (by decide)
theorem A1.a2 {d : D} (h : A1 d) : A2 d := h.mono (by decide) (by decide)
theorem A1.tup {ds : List D} (h : ∀ x ∈ ds, A0 x) (hl : ds.length ≤ 5) : A1 (.tup ds) := (Gv.tup h hl (by decide)).mono (by decide) (by decide)
theorem A1.lst {ds : List D} (h : ∀ x ∈ ds, A0 x) (hl : ds.length ≤ 5) : A1 (.lst false ds) := (Gv.lst h hl (by decide)).mono (by decide) (by decide)
theorem A2.tup {ds : List D} (h : ∀ x ∈ ds, A1 x) (hl : ds.length ≤ 5) : A2 (.tup ds) := (Gv.tup h hl (by decide)).mono (by decide) (by decide)
theorem A2.lst {ds : List D} (h : ∀ x ∈ ds, A1 x) (hl : ds.length ≤ 5) : A2 (.lst false ds) := (Gv.lst h hl (by decide)).mono (by decide) (by decide)
theorem A0.i {i : Int} (h0 : -(10 ^ 12) ≤ i) (h1 : i ≤ 10 ^ 12) : A0 (.int i) := Gv.int (by
  have h : i.natAbs < 2 ^ 1920 := Nat.lt_of_le_of_lt (show i.natAbs ≤ 10 ^ 12 by omega) (by decide)
  by_cases e : i.natAbs = 0
  · rw [e]; decide
  · exact (Nat.log2_lt e).mpr h)
theorem fa_nil {P : D → Prop} : ∀ x ∈ ([] : List D), P x := fun _ z => nomatch z
theorem fa_cons {P : D → Prop} {a : D} {l : List D} (h : P a) (k : ∀ x ∈ l, P x) : ∀ x ∈ a :: l, P x := fun x hx => by
  rcases List.mem_cons.mp hx with rfl | z
  · exact h
  · exact k x z
/-! ### a word with a wrong sign -/
theorem okS_cut {z : Str} {lo hi : Option Int} (h : okS z) : okS (cutS z lo hi) := okS_iff.mpr fun c hc => by
  have hc : c ∈ ((z.cps.toList.drop (HT.sIx z.length 0 lo)).take (HT.sIx z.length z.length hi - HT.sIx z.length 0 lo)).toArray.toList := hc
  rw [List.toList_toArray] at hc
  exact okS_iff.mp h c (List.mem_of_mem_drop (List.mem_of_mem_take hc))
theorem cutS_len {z : Str} {lo hi : Option Int} : (cutS z lo hi).length ≤ z.length := by
  show ((z.cps.toList.drop (HT.sIx z.length 0 lo)).take (HT.sIx z.length z.length hi - HT.sIx z.length 0 lo)).toArray.size ≤ z.cps.size
  rw [List.size_toArray, List.length_take, List.length_drop, Array.length_toList]
  omega
theorem evv_slS {ρ : Env} {te : TDE} {tl th : TDO} {z : Str} {lo hi : Option Int} (h : Ev te ρ (.str z)) (h1 : Eo tl ρ lo) (h2 : Eo th ρ hi) (hz : z.length ≤ sizeLine) : EvV (dSl te tl th) ρ (.str (cutS z lo hi)) := fun Q q => h _ fun x hx => h1 _ (h2 _ ⟨_, hx, _, if_pos hz, q⟩)
abbrev SG1 : Str := Str.ofString " !#$&'()*+,-./0123456789:;<=>?@ABCDEFGHIJKLMNOPQRSTUVWXYZ[]^_{|}~"
abbrev SG2 : Str := Str.ofString "`"
def SIGNS : Str := SG1 ++ SG2
theorem add_str {a b : Str} (h : a.length + b.length ≤ sizeLine) : addD (.str a) (.str b) = some (.str (a ++ b)) := if_pos h
theorem sg_len : SG1.length + SG2.length ≤ sizeLine := by decide +kernel
theorem add_signs : addD (D.str SG1) (D.str SG2) = some (D.str SIGNS) := add_str sg_len
theorem wwrong_ok {n : Nat} {d : D} {z : Str} {Q : D → D → Prop} (hp : PenOk n d) (hn : n + 10 ≤ 2 ^ 30) (h0 : 1 ≤ z.length) (h1 : z.length ≤ 100) (hz : okS z) (h : ∀ s d', okS s → s.length ≤ 2 * z.length + 1 → PenOk (n + 2) d' → Q (.str s) d') : F_wwrong d [.str z] Q := by
  show rd_wwrong _ [some d, some (.str z), none, none]
  unfold rd_wwrong
  have zl : z.length ≤ sizeLine := Nat.le_trans h1 (by decide)
  have sl : SIGNS.length = 66 := by decide +kernel
  have sl2 : SIGNS.length ≤ sizeLine := by rw [sl]; decide
  have sok : okS SIGNS := by decide +kernel
  dsimp only [dSeq]
  refine ev_set (ρ := [some d, some (.str z), none, none]) (d := .str SIGNS) (ev_bin ev_c ev_c add_signs) rfl ?_
  dsimp only [dSet]
  refine io_take (ρ := [some d, some (.str z), some (.str SIGNS), none]) (d0 := d) (ds := [.int z.length]) rfl (ez_fz (ev_lenS (ev_var rfl) zl) ez_nil) rfl (take_ok hp (by omega) (by omega) (by omega) fun r d1 r0 r1 hp1 => ⟨.int r, _, rfl, ?_⟩)
  dsimp only [dRet, dBin]
  refine evv_slS (ρ := [some d1, some (.str z), some (.str SIGNS), some (.int r)]) (ev_var rfl) eo_no (eo_part (ev_var rfl)) zl _ ?_
  refine ⟨_, rfl, ?_⟩
  refine io_take (ρ := [some d1, some (.str z), some (.str SIGNS), some (.int r)]) (d0 := d1) (ds := [.int 66]) rfl (ez_fz (by rw [show (66 : Int) = (SIGNS.length : Int) by rw [sl]; rfl]; exact ev_lenS (ev_var rfl) sl2) ez_nil) rfl (take_ok hp1 (by omega) (by decide) (by decide) fun q d2 q0 q1 hp2 => ?_)
  obtain ⟨c, hc, ok⟩ : ∃ c : Nat, ixD (.str SIGNS) (.int q) = some (.str ⟨#[c]⟩) ∧ c < 0x110000 := by
    obtain ⟨m, rfl⟩ : ∃ m : Nat, q = (m : Int) := ⟨q.toNat, by omega⟩
    have hm : m < SIGNS.cps.toList.length := by rw [Array.length_toList]; show m < SIGNS.length; omega
    refine ⟨SIGNS.cps.toList[m], ?_, okS_iff.mp sok _ (List.getElem_mem hm)⟩
    show (if SIGNS.length ≤ sizeLine then (atI SIGNS.cps.toList (m : Int)).map (fun c => D.str ⟨#[c]⟩) else none) = _
    rw [if_pos sl2, atI_nat (List.getElem?_eq_getElem hm)]; rfl
  refine ⟨_, rfl, _, rfl, _, hc, _, rfl, _, rfl, _, if_pos ?_, ?_⟩
  · have k1 := cutS_len (z := z) (lo := none) (hi := some r)
    have k3 : (⟨#[c]⟩ : Str).length = 1 := rfl
    exact Nat.le_trans (show _ ≤ 200 by omega) (by decide)
  refine evv_slS (ρ := [some d2, some (.str z), some (.str SIGNS), some (.int r)]) (ev_var rfl) (eo_part (ev_add (ev_var rfl) ev_c)) eo_no zl _ ?_
  have k1 := cutS_len (z := z) (lo := none) (hi := some r)
  have k2 := cutS_len (z := z) (lo := some (r + 1)) (hi := none)
  have k3 : (⟨#[c]⟩ : Str).length = 1 := rfl
  have o1 : okS (⟨#[c]⟩ : Str) := okS_iff.mpr fun x hx => by
    have : x = c := by simpa using hx
    rw [this]; exact ok
  refine ⟨_, rfl, _, rfl, _, if_pos ?_, _, _, rfl, d2, rfl, h _ d2 (okS_app (okS_app (okS_cut hz) o1) (okS_cut hz)) ?_ hp2⟩
  · rw [strLen_append]
    exact Nat.le_trans (show _ ≤ 300 by omega) (by decide)
  · rw [strLen_append, strLen_append]; omega
end KW
set_option maxHeartbeats 1000000
/-! KX8: rows with something replaced. -/
namespace KW
open PySem PySem.Spec L2
open PyProof.Rows hiding St

theorem ez_fzT {te : TDE} {t : TDZ} {ρ : Env} {es ds : List D} (h : EvV te ρ (.tup es)) (hr : Ez t ρ ds) (hz : (D.tup es).fz = .tup es := by rfl) : Ez (zFz te t) ρ (.tup es :: ds) := by
  have := ez_fzV h hr
  rw [hz] at this
  exact this
theorem ez_fzL {te : TDE} {t : TDZ} {ρ : Env} {es ds : List D} (h : EvV te ρ (.lst true es)) (hr : Ez t ρ ds) (hz : (D.lst true es).fz = .lst false es := by rfl) : Ez (zFz te t) ρ (.lst false es :: ds) := by
  have := ez_fzV h hr
  rw [hz] at this
  exact this
theorem ei_iterV {te : TDE} {ρ : Env} {o : Bool} {ds : List D} (h : EvV te ρ (.lst o ds)) (hz : D.isFzs ds = true) : Ei (dIter te) ρ ds := fun Q q => h _ ⟨.lst false ds, ρ, by show some ((D.lst o ds).fz, ρ) = _; rw [D.fz, D.fzs_of _ hz], ds, rfl, q⟩
theorem A2s.fzs {l : List D} (h : ∀ x ∈ l, A2 x) : D.isFzs l = true := by
  rw [D.isFzs_eq, List.all_eq_true]
  exact fun x hx => fz_isFz (h x hx).fz
/-- an entry of a row, by its time -/
theorem Ent.a2 {e : Ent} {k : KM} (hk : k.Ok) (ok : e.Ok k) (h0 : 0 ≤ e.time) (h1 : e.time ≤ 10 ^ 6) : A2 e.toD := by
  cases e with
  | key c t =>
    have hc : LetS c := ok
    exact (A1.tup (fa_cons (Gv.str (by decide +kernel) (by decide +kernel)) (fa_cons (Gv.str (lets_ok hc.lets) (by rw [hc.len]; decide)) (fa_cons (A0.i (by have : 0 ≤ t := h0; omega) (by have : t ≤ 10 ^ 6 := h1; omega)) fa_nil))) (by simp)).a2
  | set f b t =>
    have hf : f ∈ k.outside := ok
    have nf := hk.flN f (hk.outS.subset hf)
    unfold isName at nf
    rw [Bool.and_eq_true, Bool.and_eq_true, decide_eq_true_eq, decide_eq_true_eq] at nf
    exact (A1.tup (fa_cons (Gv.str (by decide +kernel) (by decide +kernel)) (fa_cons (Gv.str (lets_ok nf.2) (by omega)) (fa_cons (Gv.bl b) (fa_cons (A0.i (by have : 0 ≤ t := h0; omega) (by have : t ≤ 10 ^ 6 := h1; omega)) fa_nil)))) (by simp)).a2
theorem Ent.last (e : Ent) : ∃ ds, e.toD = .tup ds ∧ ds ≠ [] ∧ lastD ds = .int e.time := by
  cases e with
  | key c t => exact ⟨_, rfl, by simp, rfl⟩
  | set f b t => exact ⟨_, rfl, by simp, rfl⟩
theorem ev_lastE {ρ : Env} {te : TDE} {e : Ent} (h : Ev te ρ e.toD) : Ev (dBin ixD te (dUn negD (dC (.int 1)))) ρ (.int e.time) := by
  obtain ⟨ds, e1, h0, h1⟩ := e.last
  rw [e1] at h
  rw [← h1]
  exact ev_ixt h ev_m1 (atI_last h0) (by rw [h1]; rfl)
/-- what the law hands to is_row -/
structure Tv (d : D) : Prop where
  ask : AskRow d
  sh : Sh 5 4000000 d
theorem Tv.lst {l : List D} (h : ∀ x ∈ l, A2 x) (hl : l.length ≤ 60) : Tv (.lst false l) where
  ask := ⟨nice_lst_of (Nat.le_trans hl (by decide)) fun x hx => (h x hx).nc, fun o es e x hx => by cases e; exact (h x hx).flat (by decide)⟩
  sh := (Sh.lst (fun x hx => (h x hx).sh) hl).mono (by decide) (by decide)
theorem Tv.of {n : Nat} {d : D} (h : Gv n 4000000 d) (hn : n ≤ 5) (hd : ∀ o es, d ≠ .lst o es) : Tv d := ⟨⟨h.nc, fun o es e => absurd e (hd o es)⟩, h.sh.mono hn (Nat.le_refl _)⟩
abbrev kv (k : KM) : List D := [.tup (sDs k.flags), .tup (sDs k.outside), .dct false (cmdsD k.cmds), .tup (k.layers.map layD), .int k.wait]
theorem k_flags {k : KM} {ρ : Env} {i : Nat} (g : ρ.getD i none = some k.toD) : Ev (dBin ixD (dVar i) (dC (.int 0))) ρ (.tup (sDs k.flags)) := ev_ixt (ds := kv k) (ev_var g) ev_c rfl (isFz_sDsT _)
theorem k_out {k : KM} {ρ : Env} {i : Nat} (g : ρ.getD i none = some k.toD) : Ev (dBin ixD (dVar i) (dC (.int 1))) ρ (.tup (sDs k.outside)) := ev_ixt (ds := kv k) (ev_var g) ev_c rfl (isFz_sDsT _)
theorem name_ok {s : Str} (h : isName s = true) : okS s ∧ s.length ≤ 8 := by
  unfold isName at h
  rw [Bool.and_eq_true, Bool.and_eq_true, decide_eq_true_eq, decide_eq_true_eq] at h
  exact ⟨lets_ok h.2, h.1.2⟩
/-- the flag that a bad row speaks of -/
theorem flag0 {k : KM} (hk : k.Ok) {ρ : Env} (g : ρ.getD 1 none = some k.toD) : ∃ fl : Str, okS fl ∧ fl.length ≤ 8 ∧ Ev (dBin ixD (dBin addD (dBin addD (dBin ixD (dVar 1) (dC (.int 1))) (dBin ixD (dVar 1) (dC (.int 0)))) (dTupE (zFz (dC (.str "caps")) zNil))) (dC (.int 0))) ρ (.str fl) := by
  have lo : k.outside.length ≤ 3 := Nat.le_trans hk.outS.length_le hk.flL
  have lf := hk.flL
  have hall : ∀ s ∈ k.outside ++ k.flags ++ [("caps" : Str)], isName s = true := fun s hs => by
    rcases List.mem_append.mp hs with z | z
    · rcases List.mem_append.mp z with z | z
      · exact hk.flN s (hk.outS.subset z)
      · exact hk.flN s z
    · rw [List.mem_singleton.mp z]; decide +kernel
  obtain ⟨fl, r, e⟩ : ∃ fl r, k.outside ++ k.flags ++ [("caps" : Str)] = fl :: r := by
    cases h : k.outside ++ k.flags ++ [("caps" : Str)] with
    | nil => simp at h
    | cons a b => exact ⟨a, b, rfl⟩
  have nf := name_ok (hall fl (by rw [e]; simp))
  refine ⟨fl, nf.1, nf.2, ?_⟩
  have e2 : sDs k.outside ++ sDs k.flags ++ [.str "caps"] = sDs (fl :: r) := by
    rw [← e]; unfold sDs; rw [List.map_append, List.map_append]; rfl
  refine ev_ixt (ds := sDs (fl :: r)) ?_ ev_c (atI_nat (j := 0) rfl)
  rw [← e2]
  exact (ev_catT (ev_catT (k_out g) (k_flags g) ⟨by rw [List.length_map, List.length_map]; exact Nat.le_trans (show _ ≤ 10 by omega) (by decide), isFzs_sDs _, isFzs_sDs _⟩).ev (ev_tup (ez_fz ev_c ez_nil) (by show 1 ≤ sizeLine; decide)).ev ⟨by rw [List.length_append, List.length_map, List.length_map]; exact Nat.le_trans (show _ + 1 ≤ 10 by omega) (by decide), by rw [show sDs k.outside ++ sDs k.flags = sDs (k.outside ++ k.flags) by unfold sDs; rw [List.map_append]]; exact isFzs_sDs _, rfl⟩).ev
theorem flat_eDs {k : KM} (hk : k.Ok) {es : List Ent} (ro : RowOk k es) (hl : es.length ≤ 300) : ∀ x ∈ eDs es, A2 x := fun x hx => by
  obtain ⟨e, he, rfl⟩ := List.mem_map.mp hx
  have := ro.hi e he
  exact e.a2 hk (ro.ok e he) (ro.lo e he) (by omega)
theorem flat_lstA {o : Bool} {l : List D} (h : ∀ x ∈ l, A2 x) : (D.lst o l).flatEq = true := by
  have hs := Sh.lst (o := o) (fun x hx => (h x hx).sh) (Nat.le_refl _)
  unfold D.flatEq
  rw [hs.pl, decide_eq_true (Nat.le_trans hs.dp (by decide)), D.py, PyData.canLay0, layAll fun x hx => (h x hx).ly]; rfl
theorem ne_nilL {o o' : Bool} {l : List D} (h : ∀ x ∈ l, A2 x) : neD (.lst o l) (.lst o' []) = some (.bl (!l.isEmpty)) := by
  unfold neD
  rw [flat_lstA h, show (D.lst o' []).flatEq = true from rfl]
  cases l <;> rfl
/-- the time that a bad row speaks of -/
theorem time0 {k : KM} (hk : k.Ok) {es : List Ent} (ro : RowOk k es) (hl : es.length ≤ 300) {ρ : Env} {a : Int} (a0 : 0 ≤ a) (a1 : a ≤ es.length) (g2 : ρ.getD 2 none = some (.lst false (eDs es))) (g4 : ρ.getD 4 none = some (.int a)) : ∃ t : Int, 0 ≤ t ∧ t ≤ 10 ^ 6 ∧
    Ev (dIf (dTst (dBin ltD (dVar 4) (dCall lenD (dCons (dVar 2) dNil)))) (dBin ixD (dBin ixD (dVar 2) (dVar 4)) (dUn negD (dC (.int 1)))) (dIf (dTst (dBin neD (dVar 2) (dLstE zNil))) (dBin ixD (dBin ixD (dVar 2) (dUn negD (dC (.int 1)))) (dUn negD (dC (.int 1)))) (dC (.int 0)))) ρ (.int t) := by
  have hb : ∀ e ∈ es, 0 ≤ e.time ∧ e.time ≤ 10 ^ 6 := fun e he => ⟨ro.lo e he, by have := ro.hi e he; omega⟩
  by_cases h1 : a < es.length
  · obtain ⟨m, rfl⟩ : ∃ m : Nat, a = (m : Int) := ⟨a.toNat, by omega⟩
    have hm : m < es.length := by omega
    refine ⟨es[m].time, (hb _ (List.getElem_mem hm)).1, (hb _ (List.getElem_mem hm)).2, ev_dIf (c := true) (et_tst ?_) ?_⟩
    · rw [← decide_eq_true (show (m : Int) < ((eDs es).length : Int) by rw [List.length_map]; exact h1)]
      exact ev_lt (ev_var g4) (ev_lenL (ev_var g2))
    · exact ev_lastE (ev_ixl (ev_var g2) (ev_var g4) (atI_nat (by rw [List.getElem?_map, List.getElem?_eq_getElem hm]; rfl)) (fz_isFz (Ent.fz _)))
  · have ht : Et (dTst (dBin ltD (dVar 4) (dCall lenD (dCons (dVar 2) dNil)))) ρ false := et_tst (by
      rw [← decide_eq_false (show ¬ (a : Int) < ((eDs es).length : Int) by rw [List.length_map]; omega)]
      exact ev_lt (ev_var g4) (ev_lenL (ev_var g2)))
    have hn : Et (dTst (dBin neD (dVar 2) (dLstE zNil))) ρ (!(eDs es).isEmpty) := et_tst (ev_bin (ev_var g2) (ev_lst ez_nil (by show 0 ≤ sizeLine; decide)).ev (ne_nilL (flat_eDs hk ro hl)))
    by_cases h2 : es = []
    · subst h2
      exact ⟨0, by decide, by decide, ev_dIf ht (ev_dIf hn ev_c)⟩
    · have hp : 0 < es.length := List.length_pos_iff.mpr h2
      have hm : es.length - 1 < es.length := by omega
      refine ⟨es[es.length - 1].time, (hb _ (List.getElem_mem hm)).1, (hb _ (List.getElem_mem hm)).2, ev_dIf ht (ev_dIf (c := true) ?_ ?_)⟩
      · have : (!(eDs es).isEmpty) = true := by cases es <;> first | exact absurd rfl h2 | rfl
        rw [← this]; exact hn
      · have h0 : eDs es ≠ [] := fun z => h2 (List.map_eq_nil_iff.mp z)
        have el : lastD (eDs es) = es[es.length - 1].toD := by
          unfold lastD
          rw [List.getLast?_eq_getElem?, List.getElem?_map, List.length_map, List.getElem?_eq_getElem hm]; rfl
        exact ev_lastE (ev_ixl (ev_var g2) ev_m1 (by rw [← el]; exact atI_last h0) (fz_isFz (Ent.fz _)))
end KW
set_option maxHeartbeats 400000
/-! KX9: rows with something replaced. -/
namespace KW
open PySem PySem.Spec L2
open PyProof.Rows hiding St

abbrev env9 (d : D) (k : KM) (es : List Ent) (fl : Str) (a t : Int) (l : List D) (b f x y : Option D) : Env := [some d, some k.toD, some (.lst false (eDs es)), some (.str fl), some (.int a), some (.int t), some (.lst true l), b, f, x, y]
/-- a list grows by items that are flat -/
theorem grow {ρ : Env} {l m : List D} {te : TDE} {Dd : EndsD} (g : ρ.getD 6 none = some (.lst true l)) (hl : ∀ x ∈ l, A2 x) (hm : ∀ x ∈ m, A2 x) (n1 : l.length ≤ 100) (n2 : m.length ≤ 100) (h : EvV te ρ (.lst true m)) (k : ∀ l', (∀ x ∈ l', A2 x) → l'.length = l.length + m.length → Dd.nx (ρ.set 6 (some (.lst true l')))) : dSet 6 (dBin addD (dVar 6) te) Dd ρ :=
  evv_set (ev_catL (ev_var g) h.ev ⟨Nat.le_trans (show _ ≤ 200 by omega) (by decide), A2s.fzs hl, A2s.fzs hm⟩) (k _ (fun x hx => (List.mem_append.mp hx).elim (hl x) (hm x)) (List.length_append))
theorem set_io {i n k : Nat} {F : D → List D → (D → D → Prop) → Prop} {t : TDZ} {ds : List D} {d0 : D} {Dd : EndsD} {ρ : Env} (g : ρ.getD n none = some d0) (h : Ez t ρ ds) (hl : ds.length + 1 = k) (q : F d0 ds fun d d0' => Dd.nx ((ρ.set n (some d0')).set i (some d))) : dSet i (dCallI n k F t) Dd ρ := by
  dsimp only [dSet]
  refine io_take g h hl ?_
  have e : ∀ (d : D) (ρ : Env), takeO (.val d) ρ = some (d, ρ) := fun _ _ => rfl
  have e2 : (fun d d0' => Dd.nx ((ρ.set n (some d0')).set i (some d))) = fun d d0' => ∃ d_1 ρ2, takeO (.val d) (ρ.set n (some d0')) = some (d_1, ρ2) ∧ Dd.nx (ρ2.set i (some d_1)) := by
    funext d d0'
    apply propext
    constructor
    · exact fun q => ⟨d, _, rfl, q⟩
    · intro ⟨x, ρ2, e3, q⟩
      rw [e] at e3
      cases e3
      exact q
  rw [← e2]
  exact q
theorem c_str {s : Str} (h : okS s := by decide +kernel) (k : s.length ≤ 190 := by decide +kernel) : A0 (.str s) := Gv.str h k
/-- two parts at once -/
theorem grow2 {ρ : Env} {l m m2 : List D} {te te2 : TDE} {Dd : EndsD} (g : ρ.getD 6 none = some (.lst true l)) (hl : ∀ x ∈ l, A2 x) (hm : ∀ x ∈ m, A2 x) (hm2 : ∀ x ∈ m2, A2 x) (n1 : l.length ≤ 100) (n2 : m.length ≤ 100) (n3 : m2.length ≤ 100) (h : EvV te ρ (.lst true m)) (h2 : EvV te2 ρ (.lst true m2)) (k : ∀ l', (∀ x ∈ l', A2 x) → l'.length = l.length + m.length + m2.length → Dd.nx (ρ.set 6 (some (.lst true l')))) : dSet 6 (dBin addD (dBin addD (dVar 6) te) te2) Dd ρ := by
  have hlm : ∀ x ∈ l ++ m, A2 x := fun x hx => (List.mem_append.mp hx).elim (hl x) (hm x)
  exact evv_set (ev_catL (ev_catL (ev_var g) h.ev ⟨Nat.le_trans (show _ ≤ 200 by omega) (by decide), A2s.fzs hl, A2s.fzs hm⟩).ev h2.ev ⟨by rw [List.length_append]; exact Nat.le_trans (show _ ≤ 300 by omega) (by decide), A2s.fzs hlm, A2s.fzs hm2⟩) (k _ (fun x hx => (List.mem_append.mp hx).elim (hlm x) (hm2 x)) (by rw [List.length_append, List.length_append]))
/-- a key entry with a wrong letter, four times -/
theorem grow_wrong {n : Nat} {d : D} {ρ : Env} {l : List D} {t : Int} {Dd : EndsD} (aT : A0 (.int t)) (hp : PenOk n d) (hn : n + 10 ≤ 2 ^ 30) (g0 : ρ.getD 0 none = some d) (g5 : ρ.getD 5 none = some (.int t)) (g6 : ρ.getD 6 none = some (.lst true l)) (hl : ∀ x ∈ l, A2 x) (n1 : l.length ≤ 100)
    (k : ∀ l' d', (∀ x ∈ l', A2 x) → l'.length = l.length + 4 → PenOk (n + 2) d' → Dd.nx ((ρ.set 0 (some d')).set 6 (some (.lst true l')))) : dSet 6 (dBin addD (dVar 6) (dBin repD (dLstE (zFz (dTupE (zFz (dC (.str "key")) (zFz (dCallI 0 2 F_wwrong (zFz (dC (.str "a")) zNil)) (zFz (dVar 5) zNil)))) zNil)) (dC (.int 4)))) Dd ρ := by
  dsimp only [dSet, dBin]
  refine ⟨_, g6, .str "key", _, rfl, ?_⟩
  refine io_take (d0 := d) g0 (ez_fz (d := .str "a") ev_c ez_nil) rfl (wwrong_ok hp hn (by decide +kernel) (by decide +kernel) (by decide +kernel) fun s d' hs hsl hp' => ?_)
  have hsl : s.length ≤ 3 := hsl
  have h5 : (ρ.set 0 (some d')).getD 5 none = some (.int t) := by rw [List.getD_eq_getElem?_getD, List.getElem?_set_ne (by decide), ← List.getD_eq_getElem?_getD]; exact g5
  have h6 : (ρ.set 0 (some d')).getD 6 none = some (.lst true l) := by rw [List.getD_eq_getElem?_getD, List.getElem?_set_ne (by decide), ← List.getD_eq_getElem?_getD]; exact g6
  have i1 : A2 (.tup [.str "key", .str s, .int t]) := (A1.tup (fa_cons c_str (fa_cons (Gv.str hs (by omega)) (fa_cons aT fa_nil))) (by simp)).a2
  have hr : ∀ x ∈ [D.tup [.str "key", .str s, .int t], .tup [.str "key", .str s, .int t], .tup [.str "key", .str s, .int t], .tup [.str "key", .str s, .int t]], A2 x := fa_cons i1 (fa_cons i1 (fa_cons i1 (fa_cons i1 fa_nil)))
  refine ⟨.str s, _, rfl, ?_⟩
  refine ev_var (i := 5) h5 _ fun x hx => ⟨.int t, _, fz_fz' hx rfl, by show 3 ≤ sizeLine; decide, .tup [.str "key", .str s, .int t], _, rfl, by show 1 ≤ sizeLine; decide, _, rfl, _, rfl, .lst true [D.tup [.str "key", .str s, .int t], .tup [.str "key", .str s, .int t], .tup [.str "key", .str s, .int t], .tup [.str "key", .str s, .int t]], rfl, .lst true l, h6, _, rfl, _, if_pos ⟨Nat.le_trans (show l.length + 4 ≤ 200 by omega) (by decide), A2s.fzs hl, A2s.fzs hr⟩, _, _, rfl, k _ d' (fun x hx => (List.mem_append.mp hx).elim (hl x) (hr x)) (List.length_append) hp'⟩
theorem growB {d : D} {k : KM} {es : List Ent} {fl : Str} {a t : Int} {l m bs : List D} {f : D → D} {te te2 : TDE} {Dd : EndsD} (hl : ∀ x ∈ l, A2 x) (hb : ∀ x ∈ bs, A1 x) (hf : ∀ x ∈ bs, A2 (f x)) (hff : ∀ x, (f x).fz = f x) (hm : ∀ x ∈ m, A2 x) (n1 : l.length ≤ 100) (n2 : bs.length ≤ 100) (n3 : m.length ≤ 100)
    (he : ∀ x ∈ bs, Ev te [some d, some k.toD, some (.lst false (eDs es)), some (.str fl), some (.int a), some (.int t), some (.lst true l), some (.lst false bs), none, some x, none] (f x))
    (h2 : EvV te2 [some d, some k.toD, some (.lst false (eDs es)), some (.str fl), some (.int a), some (.int t), some (.lst true l), some (.lst false bs), none, none, none] (.lst true m))
    (q : ∀ l', (∀ x ∈ l', A2 x) → l'.length = l.length + bs.length + m.length → Dd.nx [some d, some k.toD, some (.lst false (eDs es)), some (.str fl), some (.int a), some (.int t), some (.lst true l'), some (.lst false bs), none, none, none]) :
    dSet 6 (dBin addD (dBin addD (dVar 6) (dComp (dIter (dVar 7)) (gN 9) dYes te [9])) te2) Dd [some d, some k.toD, some (.lst false (eDs es)), some (.str fl), some (.int a), some (.int t), some (.lst true l), some (.lst true bs), none, none, none] := by
  have bz : D.isFzs bs = true := A2s.fzs fun x hx => (hb x hx).a2
  have hlm : ∀ x ∈ l ++ bs.map f, A2 x := fun x hx => by
    rcases List.mem_append.mp hx with z | z
    · exact hl x z
    · obtain ⟨y, hy, rfl⟩ := List.mem_map.mp z
      exact hf y hy
  have hfz : D.isFzs (bs.map f) = true := A2s.fzs fun x hx => hlm x (List.mem_append.mpr (.inr hx))
  dsimp only [dSet, dBin, dComp, dIter]
  refine ⟨_, rfl, _, rfl, .lst false bs, [some d, some k.toD, some (.lst false (eDs es)), some (.str fl), some (.int a), some (.int t), some (.lst true l), some (.lst false bs), none, none, none], ?_, bs, rfl, ?_⟩
  · show some ((D.lst true bs).fz, [_, _, _, _, _, _, _, some (D.lst true bs).fz, _, _, _]) = _
    rw [D.fz, D.fzs_of _ bz]
  refine comp_map (f := f) bs (Nat.le_trans n2 (by decide)) (fun x hx Q' hq => he x hx _ fun y hy => hq y _ (take_fz hy (hff x))) ?_
  refine ⟨_, rfl, _, rfl, .lst true (l ++ bs.map f), if_pos ⟨by rw [List.length_map]; exact Nat.le_trans (show _ ≤ 200 by omega) (by decide), A2s.fzs hl, hfz⟩, ?_⟩
  refine h2 _ ⟨_, rfl, _, rfl, .lst true (l ++ bs.map f ++ m), if_pos ⟨by rw [List.length_append, List.length_map]; exact Nat.le_trans (show _ ≤ 300 by omega) (by decide), A2s.fzs hlm, A2s.fzs hm⟩, _, _, rfl, ?_⟩
  exact q _ (fun x hx => (List.mem_append.mp hx).elim (hlm x) (hm x)) (by rw [List.length_append, List.length_append, List.length_map])
theorem bad_found {n : Nat} {d : D} {k : KM} {es : List Ent} {fl : Str} {a t : Int} {l bs : List D} {Dd : EndsD} (hp : PenOk n d) (hn : n + 10 ≤ 2 ^ 30) (hes : ∀ x ∈ eDs es, A2 x) (n0 : es.length ≤ 8) (hl : ∀ x ∈ l, A2 x) (l0 : l ≠ []) (n1 : l.length ≤ 100)
    (q : ∀ fd d', (∀ x ∈ fd, A2 x) → fd.length ≤ 17 → PenOk (n + 2) d' → Dd.nx [some d', some k.toD, some (.lst false (eDs es)), some (.str fl), some (.int a), some (.int t), some (.lst false l), some (.lst false bs), some (.lst true fd), none, none]) :
    dSet 8 (dBin addD (dBin addD (dSl (dVar 2) dNoPart (dPart (dVar 4))) (dLstE (zFz (dCallI 0 2 F_wpick (zFz (dVar 6) zNil)) zNil))) (dSl (dVar 2) (dPart (dBin addD (dVar 4) (dCallI 0 2 F_take (zFz (dC (.int 2)) zNil)))) dNoPart)) Dd [some d, some k.toD, some (.lst false (eDs es)), some (.str fl), some (.int a), some (.int t), some (.lst true l), some (.lst false bs), none, none, none] := by
  have ez := isFzs_eDs es
  have le : (eDs es).length = es.length := List.length_map _
  have hc1 : ∀ x ∈ cutD (eDs es) none (some a), A2 x := fun x hx => hes x (cut_mem hx)
  have c1 : (cutD (eDs es) none (some a)).length ≤ 8 := Nat.le_trans cut_len (by omega)
  dsimp only [dSet, dBin, dSl, dLstE]
  refine ⟨_, rfl, _, rfl, a, rfl, _, rfl, .lst true (cutD (eDs es) none (some a)), if_pos ez, ⟨d, rfl⟩, _, rfl, .lst false l, [some d, some k.toD, some (.lst false (eDs es)), some (.str fl), some (.int a), some (.int t), some (.lst false l), some (.lst false bs), none, none, none], ?_, rfl, d, rfl, ?_⟩
  · show some ((D.lst true l).fz, [_, _, _, _, _, _, some (D.lst true l).fz, _, _, _, _]) = _
    rw [D.fz, D.fzs_of _ (A2s.fzs hl)]
  refine pick_ok hp (by omega) l0 (by omega) (A2s.fzs hl) fun x d1 hx hp1 => ?_
  have ax := hl x hx
  refine ⟨x, _, fz_fz' (x := .val x) rfl ax.fz, by show 1 ≤ sizeLine; decide, _, rfl, _, rfl, .lst true (cutD (eDs es) none (some a) ++ [x]), if_pos ⟨Nat.le_trans (show (cutD (eDs es) none (some a)).length + 1 ≤ 100 by omega) (by decide), A2s.fzs hc1, A2s.fzs (fa_cons ax fa_nil)⟩, _, rfl, ?_⟩
  dsimp only [dPart, dBin]
  refine ⟨_, rfl, ?_⟩
  refine io_take (ρ := [some d1, some k.toD, some (.lst false (eDs es)), some (.str fl), some (.int a), some (.int t), some (.lst false l), some (.lst false bs), none, none, none]) (d0 := d1) (ds := [.int 2]) rfl (ez_fz ev_c ez_nil) rfl (take_ok hp1 (by omega) (by decide) (by decide) fun r d2 r0 r1 hp2 => ?_)
  have hc2 : ∀ x ∈ cutD (eDs es) (some (a + r)) none, A2 x := fun x hx => hes x (cut_mem hx)
  have c2 : (cutD (eDs es) (some (a + r)) none).length ≤ 8 := Nat.le_trans cut_len (by omega)
  have hc3 : ∀ y ∈ cutD (eDs es) none (some a) ++ [x], A2 y := fun y hy => (List.mem_append.mp hy).elim (hc1 y) fun z => by rw [List.mem_singleton.mp z]; exact ax
  refine ⟨_, rfl, _, rfl, _, rfl, a + r, rfl, _, rfl, .lst true (cutD (eDs es) (some (a + r)) none), if_pos ez, _, rfl, _, rfl, .lst true (cutD (eDs es) none (some a) ++ [x] ++ cutD (eDs es) (some (a + r)) none), if_pos ⟨by rw [List.length_append, List.length_singleton]; exact Nat.le_trans (show _ ≤ 100 by omega) (by decide), A2s.fzs hc3, A2s.fzs hc2⟩, _, _, rfl, ?_⟩
  exact q _ d2 (fun y hy => (List.mem_append.mp hy).elim (hc3 y) (hc2 y)) (by rw [List.length_append, List.length_append, List.length_singleton]; omega) hp2
theorem evv_step {ρ : Env} {te tk : TDE} {o : Bool} {ds : List D} (h : Ev te ρ (.lst o ds)) (hk : Ev tk ρ (.int (-1))) (hz : D.isFzs ds = true) : EvV (dStep te tk) ρ (.lst true ds.reverse) := fun Q q => h _ fun x hx => hk _ fun y hy => ⟨-1, hy, _, hx, _, by
  show (if D.isFzs ds = true then (if (-1 : Int) = 1 then some (D.lst true ds) else if (-1 : Int) = -1 then some (D.lst true ds.reverse) else none) else none) = _
  rw [if_pos hz]; rfl, q⟩
theorem Tv.dct0 : Tv (.dct false []) := ⟨⟨rfl, fun _ _ e => by cases e⟩, (Sh.dct (n := 0) (w := 0) (m := 0) (kvs := []) (fun _ z => nomatch z) (Nat.le_refl _)).mono (by decide) (by decide)⟩
theorem wbad_row_ok {n : Nat} {d : D} {k : KM} {es : List Ent} {Q : D → D → Prop} (hp : PenOk n d) (hn : n + 3000 ≤ 2 ^ 30) (hk : k.Ok) (ro : RowOk k es) (hl : es.length ≤ 8) (h : ∀ x d', Tv x → x.fz = x → PenOk (n + 6) d' → Q x d') : F_wbad_row d [k.toD, .lst false (eDs es)] Q := by
  show rd_wbad_row _ [some d, some k.toD, some (.lst false (eDs es)), none, none, none, none, none, none, none, none]
  unfold rd_wbad_row
  obtain ⟨fl, hf, h8, eF⟩ := flag0 (ρ := [some d, some k.toD, some (.lst false (eDs es)), none, none, none, none, none, none, none, none]) hk rfl
  dsimp only [dSeq]
  refine ev_set eF rfl ?_
  have er : (D.lst false (eDs es)).fz = .lst false (eDs es) := by rw [D.fz, D.fzs_of _ (isFzs_eDs es)]
  have le : (eDs es).length = es.length := List.length_map _
  refine set_io (ρ := [some d, some k.toD, some (.lst false (eDs es)), some (.str fl), none, none, none, none, none, none, none]) (d0 := d) (ds := [.int (((eDs es).length : Int) + 1)]) rfl (ez_fz (ev_add (ev_lenL (ev_var rfl)) ev_c) ez_nil) rfl (take_ok hp (by omega) (by omega) (by omega) fun a d1 a0 a1 hp1 => ?_)
  rw [le] at a1
  obtain ⟨t, t0, t1, eT⟩ := time0 hk ro (by omega) (ρ := [some d1, some k.toD, some (.lst false (eDs es)), some (.str fl), some (.int a), none, none, none, none, none, none]) a0 (by omega) rfl rfl
  refine ev_set (ρ := [some d1, some k.toD, some (.lst false (eDs es)), some (.str fl), some (.int a), none, none, none, none, none, none]) eT rfl ?_
  have aF : A0 (.str fl) := Gv.str hf (by omega)
  have aT : A0 (.int t) := A0.i (by omega) (by omega)
  obtain ⟨l1, el1⟩ : ∃ l : List D, l = [.tup [.str "key", .str "A", .int t], .tup [.str "key", .str "ab", .int t], .tup [.str "key", .str "", .int t], .tup [.str "key", .str "a"], .tup [.str "key", .str "a", .int t, .int t], .tup []] := ⟨_, rfl⟩
  have h1 : (∀ x ∈ l1, A2 x) ∧ l1.length = 6 := by
    subst el1
    exact ⟨(fa_cons (A1.tup (fa_cons c_str (fa_cons c_str (fa_cons aT fa_nil))) (by simp)).a2 (fa_cons (A1.tup (fa_cons c_str (fa_cons c_str (fa_cons aT fa_nil))) (by simp)).a2 (fa_cons (A1.tup (fa_cons c_str (fa_cons c_str (fa_cons aT fa_nil))) (by simp)).a2 (fa_cons (A1.tup (fa_cons c_str (fa_cons c_str fa_nil)) (by simp)).a2 (fa_cons (A1.tup (fa_cons c_str (fa_cons c_str (fa_cons aT (fa_cons aT fa_nil)))) (by simp)).a2 (fa_cons (A1.tup fa_nil (by simp)).a2 fa_nil)))))), rfl⟩
  refine evv_set (ρ := [some d1, some k.toD, some (.lst false (eDs es)), some (.str fl), some (.int a), some (.int t), none, none, none, none, none]) (d := .lst true l1) (by rw [el1]; exact ev_lst (ez_fzT (ev_tup (ez_fz ev_c (ez_fz ev_c (ez_fz (ev_var (i := 5) rfl) ez_nil))) (by show 3 ≤ sizeLine; decide)) (ez_fzT (ev_tup (ez_fz ev_c (ez_fz ev_c (ez_fz (ev_var (i := 5) rfl) ez_nil))) (by show 3 ≤ sizeLine; decide)) (ez_fzT (ev_tup (ez_fz ev_c (ez_fz ev_c (ez_fz (ev_var (i := 5) rfl) ez_nil))) (by show 3 ≤ sizeLine; decide)) (ez_fzT (ev_tup (ez_fz ev_c (ez_fz ev_c ez_nil)) (by show 2 ≤ sizeLine; decide)) (ez_fzT (ev_tup (ez_fz ev_c (ez_fz ev_c (ez_fz (ev_var (i := 5) rfl) (ez_fz (ev_var (i := 5) rfl) ez_nil)))) (by show 4 ≤ sizeLine; decide)) (ez_fzT (ev_tup ez_nil (by show 0 ≤ sizeLine; decide)) ez_nil)))))) (by show 6 ≤ sizeLine; decide)) ?_
  clear el1
  refine grow2 (ρ := [some d1, some k.toD, some (.lst false (eDs es)), some (.str fl), some (.int a), some (.int t), some (.lst true l1), none, none, none, none]) (m := ([.str "Set", .str "key", .non, .lst false [.str "set"]] : List D).map fun x : D => D.tup [x.fz, .str fl, .bl true, .int t]) (m2 := [.tup [.str "set", .str fl, .bl true, .int t]]) rfl h1.1 ?_ (fa_cons (A1.tup (fa_cons c_str (fa_cons aF (fa_cons (Gv.bl _) (fa_cons aT fa_nil)))) (by simp)).a2 fa_nil) (by omega) (by simp) (by simp) ?_ (ev_lst (ez_fzT (ev_tup (ez_fz ev_c (ez_fz (ev_var (i := 3) rfl) (ez_fz ev_c (ez_fz (ev_var (i := 5) rfl) ez_nil)))) (by show 4 ≤ sizeLine; decide)) ez_nil) (by show 1 ≤ sizeLine; decide)) fun l2 h2 n2 => ?_
  · show ∀ x ∈ [D.tup [.str "Set", .str fl, .bl true, .int t], .tup [.str "key", .str fl, .bl true, .int t], .tup [.non, .str fl, .bl true, .int t], .tup [.lst false [.str "set"], .str fl, .bl true, .int t]], A2 x
    exact (fa_cons (A1.tup (fa_cons c_str (fa_cons aF (fa_cons (Gv.bl _) (fa_cons aT fa_nil)))) (by simp)).a2 (fa_cons (A1.tup (fa_cons c_str (fa_cons aF (fa_cons (Gv.bl _) (fa_cons aT fa_nil)))) (by simp)).a2 (fa_cons (A1.tup (fa_cons Gv.non (fa_cons aF (fa_cons (Gv.bl _) (fa_cons aT fa_nil)))) (by simp)).a2 (fa_cons (A2.tup (fa_cons (A1.lst (fa_cons c_str fa_nil) (by simp)) (fa_cons (A0.a1 aF) (fa_cons (A0.a1 (Gv.bl _)) (fa_cons (A0.a1 aT) fa_nil)))) (by simp)) fa_nil))))
  · refine evv_comp (ei_iterV (ev_lst (ez_fz ev_c (ez_fz ev_c (ez_fz ev_c (ez_fzL (ev_lst (ez_fz ev_c ez_nil) (by show 1 ≤ sizeLine; decide)) ez_nil)))) (by show 4 ≤ sizeLine; decide)) rfl) (by show 4 ≤ sizeLine; decide) rfl (fun x hx => ?_) fun x => by rw [D.fz, D.fzs, D.fz_fz]; rfl
    have hz : x.fz = x := by
      simp only [List.mem_cons, List.not_mem_nil, or_false] at hx
      rcases hx with rfl | rfl | rfl | rfl <;> rfl
    rw [hz]
    exact (ev_tup (ez_fz (ev_var (i := 10) rfl) (ez_fz (ev_var (i := 3) rfl) (ez_fz ev_c (ez_fz (ev_var (i := 5) rfl) ez_nil))) hz) (by show 4 ≤ sizeLine; decide)).ev
  replace h2 : (∀ x ∈ l2, A2 x) ∧ l2.length = 11 := ⟨h2, by rw [n2, h1.2]; rfl⟩
  refine grow_wrong (ρ := [some d1, some k.toD, some (.lst false (eDs es)), some (.str fl), some (.int a), some (.int t), some (.lst true l2), none, none, none, none]) aT hp1 (by omega) rfl rfl rfl h2.1 (by omega) fun l3 d2 h3 n3 hp2 => ?_
  replace h3 : (∀ x ∈ l3, A2 x) ∧ l3.length = 15 := ⟨h3, by rw [n3, h2.2]⟩
  refine grow (ρ := [some d2, some k.toD, some (.lst false (eDs es)), some (.str fl), some (.int a), some (.int t), some (.lst true l3), none, none, none, none]) (m := [.lst false [.str "key", .str "a", .int t], .tup [.str "set", .str "absent", .bl true, .int t], .tup [.str "set", .str fl, .int 1, .int t], .tup [.str "set", .str fl, .non, .int t]]) rfl h3.1 (fa_cons (A1.lst (fa_cons c_str (fa_cons c_str (fa_cons aT fa_nil))) (by simp)).a2 (fa_cons (A1.tup (fa_cons c_str (fa_cons c_str (fa_cons (Gv.bl _) (fa_cons aT fa_nil)))) (by simp)).a2 (fa_cons (A1.tup (fa_cons c_str (fa_cons aF (fa_cons (A0.i (by decide) (by decide)) (fa_cons aT fa_nil)))) (by simp)).a2 (fa_cons (A1.tup (fa_cons c_str (fa_cons aF (fa_cons Gv.non (fa_cons aT fa_nil)))) (by simp)).a2 fa_nil)))) (by omega) (by simp) (ev_lst (ez_fzL (ev_lst (ez_fz ev_c (ez_fz ev_c (ez_fz (ev_var (i := 5) rfl) ez_nil))) (by show 3 ≤ sizeLine; decide)) (ez_fzT (ev_tup (ez_fz ev_c (ez_fz ev_c (ez_fz ev_c (ez_fz (ev_var (i := 5) rfl) ez_nil)))) (by show 4 ≤ sizeLine; decide)) (ez_fzT (ev_tup (ez_fz ev_c (ez_fz (ev_var (i := 3) rfl) (ez_fz ev_c (ez_fz (ev_var (i := 5) rfl) ez_nil)))) (by show 4 ≤ sizeLine; decide)) (ez_fzT (ev_tup (ez_fz ev_c (ez_fz (ev_var (i := 3) rfl) (ez_fz ev_c (ez_fz (ev_var (i := 5) rfl) ez_nil)))) (by show 4 ≤ sizeLine; decide)) ez_nil)))) (by show 4 ≤ sizeLine; decide)) fun l4 h4 n4 => ?_
  replace h4 : (∀ x ∈ l4, A2 x) ∧ l4.length = 19 := ⟨h4, by rw [n4, h3.2]; rfl⟩
  refine grow (ρ := [some d2, some k.toD, some (.lst false (eDs es)), some (.str fl), some (.int a), some (.int t), some (.lst true l4), none, none, none, none]) (m := [.tup [.str "set", .str fl, .int t], .tup [.str "Key", .str "a", .int t], .tup [.str "key", .non, .int t], .tup [.str "set", .non, .bl true, .int t], .non, .str "key"]) rfl h4.1 (fa_cons (A1.tup (fa_cons c_str (fa_cons aF (fa_cons aT fa_nil))) (by simp)).a2 (fa_cons (A1.tup (fa_cons c_str (fa_cons c_str (fa_cons aT fa_nil))) (by simp)).a2 (fa_cons (A1.tup (fa_cons c_str (fa_cons Gv.non (fa_cons aT fa_nil))) (by simp)).a2 (fa_cons (A1.tup (fa_cons c_str (fa_cons Gv.non (fa_cons (Gv.bl _) (fa_cons aT fa_nil)))) (by simp)).a2 (fa_cons (A0.a1 Gv.non).a2 (fa_cons (A0.a1 c_str).a2 fa_nil)))))) (by omega) (by simp) (ev_lst (ez_fzT (ev_tup (ez_fz ev_c (ez_fz (ev_var (i := 3) rfl) (ez_fz (ev_var (i := 5) rfl) ez_nil))) (by show 3 ≤ sizeLine; decide)) (ez_fzT (ev_tup (ez_fz ev_c (ez_fz ev_c (ez_fz (ev_var (i := 5) rfl) ez_nil))) (by show 3 ≤ sizeLine; decide)) (ez_fzT (ev_tup (ez_fz ev_c (ez_fz ev_c (ez_fz (ev_var (i := 5) rfl) ez_nil))) (by show 3 ≤ sizeLine; decide)) (ez_fzT (ev_tup (ez_fz ev_c (ez_fz ev_c (ez_fz ev_c (ez_fz (ev_var (i := 5) rfl) ez_nil)))) (by show 4 ≤ sizeLine; decide)) (ez_fz ev_c (ez_fz ev_c ez_nil)))))) (by show 6 ≤ sizeLine; decide)) fun l5 h5 n5 => ?_
  replace h5 : (∀ x ∈ l5, A2 x) ∧ l5.length = 25 := ⟨h5, by rw [n5, h4.2]; rfl⟩
  obtain ⟨bs, ebs⟩ : ∃ bs : List D, bs = [.int (-1), .int ((10 : Int) ^ (9 : Int).toNat + 1), .bl true, .str "0", .non, .lst false [], .int (t - 1), .int ((10 : Int) ^ (9 : Int).toNat), .int (t + 1)] := ⟨_, rfl⟩
  have hbs : (∀ x ∈ bs, A1 x) ∧ bs.length = 9 := by
    subst ebs
    exact ⟨(fa_cons (A0.a1 (A0.i (by decide) (by decide))) (fa_cons (A0.a1 (A0.i (by decide) (by decide))) (fa_cons (A0.a1 (Gv.bl _)) (fa_cons (A0.a1 c_str) (fa_cons (A0.a1 Gv.non) (fa_cons (A1.lst fa_nil (by simp)) (fa_cons (A0.a1 (A0.i (by omega) (by omega))) (fa_cons (A0.a1 (A0.i (by decide) (by decide))) (fa_cons (A0.a1 (A0.i (by omega) (by omega))) fa_nil))))))))), rfl⟩
  have bz : D.isFzs bs = true := A2s.fzs fun x hx => (hbs.1 x hx).a2
  have bE : ∀ ρ : Env, ρ.getD 5 none = some (.int t) → EvV (dLstE (zFz (dUn negD (dC (.int 1))) (zFz (dBin addD (dBin powD (dC (.int 10)) (dC (.int 9))) (dC (.int 1))) (zFz (dC (.bl true)) (zFz (dC (.str "0")) (zFz (dC .non) (zFz (dLstE zNil) (zFz (dBin subD (dVar 5) (dC (.int 1))) (zFz (dBin powD (dC (.int 10)) (dC (.int 9))) (zFz (dBin addD (dVar 5) (dC (.int 1))) zNil)))))))))) ρ (.lst true bs) := fun ρ g => by
    rw [ebs]
    exact ev_lst (ez_fz ev_m1 (ez_fz (ev_add (ev_pow ev_c ev_c (by decide)) ev_c) (ez_fz ev_c (ez_fz ev_c (ez_fz ev_c (ez_fzL (ev_lst ez_nil (by show 0 ≤ sizeLine; decide)) (ez_fz (ev_sub (ev_var (i := 5) g) ev_c) (ez_fz (ev_pow ev_c ev_c (by decide)) (ez_fz (ev_add (ev_var (i := 5) g) ev_c) ez_nil))))))))) (by show 9 ≤ sizeLine; decide)
  clear ebs
  refine grow (ρ := [some d2, some k.toD, some (.lst false (eDs es)), some (.str fl), some (.int a), some (.int t), some (.lst true l5), none, none, none, none]) (m := bs.map fun x : D => D.tup [.str "key", .str "a", x.fz]) rfl h5.1 (fun x hx => ?_) (by omega) (by rw [List.length_map]; omega) (evv_comp (ei_iterV (bE _ rfl) bz) (by rw [hbs.2]; decide) rfl (fun x hx => ?_) fun x => by rw [D.fz, D.fzs, D.fzs, D.fzs, D.fz_fz]; rfl) fun l6 h6 n6 => ?_
  · obtain ⟨y, hy, rfl⟩ := List.mem_map.mp hx
    rw [(hbs.1 y hy).fz]
    exact A2.tup (fa_cons (A0.a1 c_str) (fa_cons (A0.a1 c_str) (fa_cons (hbs.1 y hy) fa_nil))) (by simp)
  · have hz := (hbs.1 x hx).fz
    rw [hz]
    exact (ev_tup (ez_fz ev_c (ez_fz ev_c (ez_fz (ev_var (i := 9) rfl) ez_nil hz))) (by show 3 ≤ sizeLine; decide)).ev
  replace h6 : (∀ x ∈ l6, A2 x) ∧ l6.length = 34 := ⟨h6, by rw [n6, h5.2, List.length_map, hbs.2]⟩
  refine evv_set (ρ := [some d2, some k.toD, some (.lst false (eDs es)), some (.str fl), some (.int a), some (.int t), some (.lst true l6), none, none, none, none]) (bE _ rfl) ?_
  refine growB (f := fun x : D => D.tup [.str "set", .str fl, .bl false, x.fz]) (m := [.tup [.str "key", .lst false [.str "a"], .int t]]) h6.1 hbs.1 (fun x hx => ?_) (fun x => by rw [D.fz, D.fzs, D.fzs, D.fzs, D.fzs, D.fz_fz]; rfl) (fa_cons (A2.tup (fa_cons (A0.a1 c_str) (fa_cons (A1.lst (fa_cons c_str fa_nil) (by simp)) (fa_cons (A0.a1 aT) fa_nil))) (by simp)) fa_nil) (by omega) (by omega) (by simp) (fun x hx => ?_) (ev_lst (ez_fzT (ev_tup (ez_fz ev_c (ez_fzL (ev_lst (ez_fz ev_c ez_nil) (by show 1 ≤ sizeLine; decide)) (ez_fz (ev_var (i := 5) rfl) ez_nil))) (by show 3 ≤ sizeLine; decide)) ez_nil) (by show 1 ≤ sizeLine; decide)) fun l7 h7 n7 => ?_
  · show A2 (D.tup [.str "set", .str fl, .bl false, x.fz])
    rw [(hbs.1 x hx).fz]
    exact A2.tup (fa_cons (A0.a1 c_str) (fa_cons (A0.a1 aF) (fa_cons (A0.a1 (Gv.bl _)) (fa_cons (hbs.1 x hx) fa_nil)))) (by simp)
  · have hz := (hbs.1 x hx).fz
    show Ev _ _ (D.tup [.str "set", .str fl, .bl false, x.fz])
    rw [hz]
    exact (ev_tup (ez_fz ev_c (ez_fz (ev_var (i := 3) rfl) (ez_fz ev_c (ez_fz (ev_var (i := 9) rfl) ez_nil hz)))) (by show 4 ≤ sizeLine; decide)).ev
  replace h7 : (∀ x ∈ l7, A2 x) ∧ l7.length = 44 := ⟨h7, by rw [n7, h6.2, hbs.2]; rfl⟩
  refine grow (ρ := [some d2, some k.toD, some (.lst false (eDs es)), some (.str fl), some (.int a), some (.int t), some (.lst true l7), some (.lst false bs), none, none, none]) (m := [.tup [.str "set", .lst false [.str fl], .bl true, .int t], .tup [.non, .str "a", .int t], .tup [.lst false [.str "key"], .str "a", .int t], .tup [.str "key", .str "a", .tup [.int t]]]) rfl h7.1 (fa_cons (A2.tup (fa_cons (A0.a1 c_str) (fa_cons (A1.lst (fa_cons aF fa_nil) (by simp)) (fa_cons (A0.a1 (Gv.bl _)) (fa_cons (A0.a1 aT) fa_nil)))) (by simp)) (fa_cons (A1.tup (fa_cons Gv.non (fa_cons c_str (fa_cons aT fa_nil))) (by simp)).a2 (fa_cons (A2.tup (fa_cons (A1.lst (fa_cons c_str fa_nil) (by simp)) (fa_cons (A0.a1 c_str) (fa_cons (A0.a1 aT) fa_nil))) (by simp)) (fa_cons (A2.tup (fa_cons (A0.a1 c_str) (fa_cons (A0.a1 c_str) (fa_cons (A1.tup (fa_cons aT fa_nil) (by simp)) fa_nil))) (by simp)) fa_nil)))) (by omega) (by simp) (ev_lst (ez_fzT (ev_tup (ez_fz ev_c (ez_fzL (ev_lst (ez_fz (ev_var (i := 3) rfl) ez_nil) (by show 1 ≤ sizeLine; decide)) (ez_fz ev_c (ez_fz (ev_var (i := 5) rfl) ez_nil)))) (by show 4 ≤ sizeLine; decide)) (ez_fzT (ev_tup (ez_fz ev_c (ez_fz ev_c (ez_fz (ev_var (i := 5) rfl) ez_nil))) (by show 3 ≤ sizeLine; decide)) (ez_fzT (ev_tup (ez_fzL (ev_lst (ez_fz ev_c ez_nil) (by show 1 ≤ sizeLine; decide)) (ez_fz ev_c (ez_fz (ev_var (i := 5) rfl) ez_nil))) (by show 3 ≤ sizeLine; decide)) (ez_fzT (ev_tup (ez_fz ev_c (ez_fz ev_c (ez_fzT (ev_tup (ez_fz (ev_var (i := 5) rfl) ez_nil) (by show 1 ≤ sizeLine; decide)) ez_nil))) (by show 3 ≤ sizeLine; decide)) ez_nil)))) (by show 4 ≤ sizeLine; decide)) fun l8 h8' n8 => ?_
  replace h8' : (∀ x ∈ l8, A2 x) ∧ l8.length = 48 := ⟨h8', by rw [n8, h7.2]; rfl⟩
  refine bad_found hp2 (by omega) (flat_eDs hk ro (by omega)) hl h8'.1 (fun z => by have := h8'.2; rw [z] at this; cases this) (by omega) fun fd d3 hfd nfd hp3 => ?_
  have hes := flat_eDs hk ro (by omega)
  have ez := isFzs_eDs es
  have fz1 : D.isFzs fd = true := A2s.fzs hfd
  have eL : (D.lst false fd).fz = .lst false fd := by rw [D.fz, D.fzs_of _ fz1]
  have eT2 : (D.tup (eDs es)).fz = .tup (eDs es) := by rw [D.fz, D.fzs_of _ ez]
  have hrev : ∀ x ∈ (eDs es).reverse, A2 x := fun x hx => hes x (List.mem_reverse.mp hx)
  have hdbl : ∀ x ∈ eDs es ++ eDs es, A2 x := fun x hx => (List.mem_append.mp hx).elim (hes x) (hes x)
  have eR : (D.lst true (eDs es).reverse).fz = .lst false (eDs es).reverse := by rw [D.fz, D.fzs_of _ (A2s.fzs hrev)]
  have eD : (D.lst true (eDs es ++ eDs es)).fz = .lst false (eDs es ++ eDs es) := by rw [D.fz, D.fzs_of _ (A2s.fzs hdbl)]
  have eF : (D.tup [.lst false fd]).fz = .tup [.lst false fd] := by rw [D.fz, D.fzs, D.fzs, eL]
  obtain ⟨its, eits⟩ : ∃ its : List D, its = [.tup (eDs es), .non, .dct false [], .str "row", .lst false (eDs es).reverse, .lst false (eDs es ++ eDs es), .tup [.lst false fd], .int 5] := ⟨_, rfl⟩
  have hE : EvV (dLstE (zFz (dCall tupleD (dCons (dVar 2) dNil)) (zFz (dC .non) (zFz (dC (.dct true [])) (zFz (dC (.str "row")) (zFz (dStep (dVar 2) (dUn negD (dC (.int 1)))) (zFz (dBin addD (dVar 2) (dVar 2)) (zFz (dTupE (zFz (dVar 8) zNil)) (zFz (dC (.int 5)) zNil))))))))) [some d3, some k.toD, some (.lst false (eDs es)), some (.str fl), some (.int a), some (.int t), some (.lst false l8), some (.lst false bs), some (.lst false fd), none, none] (.lst true its) := by
    rw [eits]
    exact ev_lst (ez_fz (ev_call1 (ev_var (i := 2) rfl) (if_pos ez)) (ez_fz ev_c (ez_fzV (d := .dct true []) evv_c (ez_fz ev_c (ez_fzL (evv_step (ev_var (i := 2) rfl) ev_m1 ez) (ez_fzL (ev_catL (ev_var (i := 2) rfl) (ev_var (i := 2) rfl) ⟨by rw [le]; exact Nat.le_trans (show _ ≤ 100 by omega) (by decide), ez, ez⟩) (ez_fzT (ev_tup (ez_fz (ev_var (i := 8) rfl) ez_nil eL) (by show 1 ≤ sizeLine; decide)) (ez_fz ev_c ez_nil) eF) eD) eR)))) eT2) (by show 8 ≤ sizeLine; decide)
  have hT : ∀ x ∈ (.lst false fd) :: its, Tv x ∧ x.fz = x := by
    rw [eits]
    refine fa_cons ⟨Tv.lst hfd (by omega), eL⟩ (fa_cons ⟨Tv.of ((Gv.tup hes (m := 8) (by omega) (by decide)).mono (Nat.le_refl _) (by decide)) (by decide) (fun _ _ e => by cases e), eT2⟩ (fa_cons ⟨Tv.of (Gv.non.mono (Nat.le_refl _) (by decide)) (by decide) (fun _ _ e => by cases e), rfl⟩ (fa_cons ⟨Tv.dct0, rfl⟩ (fa_cons ⟨Tv.of (Gv.mono (n := 0) (w := 1930) c_str (Nat.le_refl _) (by decide)) (by decide) (fun _ _ e => by cases e), rfl⟩ (fa_cons ⟨Tv.lst hrev (by rw [List.length_reverse]; omega), by rw [D.fz, D.fzs_of _ (A2s.fzs hrev)]⟩ (fa_cons ⟨Tv.lst hdbl (by rw [List.length_append]; omega), by rw [D.fz, D.fzs_of _ (A2s.fzs hdbl)]⟩ (fa_cons ⟨?_, eF⟩ (fa_cons ⟨Tv.of (Gv.mono (n := 0) (w := 1930) (A0.i (by decide) (by decide)) (Nat.le_refl _) (by decide)) (by decide) (fun _ _ e => by cases e), rfl⟩ fa_nil))))))))
    exact Tv.of ((Gv.tup (n := 3) (w := 20 * 48602 + 4) (m := 1) (fa_cons (Gv.lst hfd (m := 20) (by omega) (by decide)) fa_nil) (by simp) (by decide)).mono (Nat.le_refl _) (by decide)) (by decide) (fun _ _ e => by cases e)
  have n8 : its.length = 8 := by rw [eits]; rfl
  clear eits
  have iz : D.isFzs its = true := by
    rw [D.isFzs_eq, List.all_eq_true]
    exact fun x hx => fz_isFz (hT x (List.mem_cons_of_mem _ hx)).2
  obtain ⟨rp, erp⟩ : ∃ rp : List D, rp = (List.replicate 12 [D.lst false fd]).flatten := ⟨_, rfl⟩
  have hrp : (∀ x ∈ rp, x = .lst false fd) ∧ rp.length = 12 := by
    subst erp
    refine ⟨fun x hx => ?_, rfl⟩
    obtain ⟨y, hy, hxy⟩ := List.mem_flatten.mp hx
    rw [(List.mem_replicate.mp hy).2] at hxy
    exact List.mem_singleton.mp hxy
  have rz : D.isFzs rp = true := by
    rw [D.isFzs_eq, List.all_eq_true]
    exact fun x hx => by rw [hrp.1 x hx]; exact fz_isFz eL
  have hT2 : ∀ x ∈ rp ++ its, Tv x ∧ x.fz = x := fun x hx => (List.mem_append.mp hx).elim (fun z => by rw [hrp.1 x z]; exact hT _ List.mem_cons_self) fun z => hT x (List.mem_cons_of_mem _ z)
  have tz : D.isFzs (rp ++ its) = true := by
    rw [D.isFzs_eq, List.all_eq_true]
    exact fun x hx => fz_isFz (hT2 x hx).2
  refine ⟨⟨d3, rfl⟩, _, rfl, .lst false fd, [some d3, some k.toD, some (.lst false (eDs es)), some (.str fl), some (.int a), some (.int t), some (.lst false l8), some (.lst false bs), some (.lst false fd), none, none], ?_, by show 1 ≤ sizeLine; decide, .lst true [.lst false fd], rfl, .int 12, rfl, .lst true rp, ?_, ?_⟩
  · show some ((D.lst true fd).fz, [_, _, _, _, _, _, _, _, some (D.lst true fd).fz, _, _]) = _
    rw [D.fz, D.fzs_of _ fz1]
  · rw [erp]
    exact if_pos ⟨by show D.isFzs [.lst false fd] = true; rw [D.isFzs, fz_isFz eL]; rfl, by decide, by decide, by show 1 * 12 ≤ sizeLine; decide⟩
  clear erp
  refine hE _ ⟨.lst true rp, rfl, .lst true its, rfl, .lst true (rp ++ its), if_pos ⟨by rw [hrp.2, n8]; decide, rz, iz⟩, .lst false (rp ++ its), _, by show some ((D.lst true (rp ++ its)).fz, _) = _; rw [D.fz, D.fzs_of _ tz], rfl, d3, rfl, ?_⟩
  refine pick_ok hp3 (by omega) (fun z => by have := congrArg List.length z; rw [List.length_append, hrp.2] at this; simp at this) (by rw [List.length_append, hrp.2, n8]; decide) tz fun x d4 hx hp4 => ?_
  exact ⟨x, _, rfl, d4, rfl, h x d4 (hT2 x hx).1 (hT2 x hx).2 (hp4.mono (by omega))⟩
end KW
set_option maxHeartbeats 4000000
namespace Gk06
open PySem PySem.Spec L2 KW
open PyProof.Rows hiding St
/-! ### the text -/
def top (i : Nat) : Stmt := PySem.Challenge.pw_keywait_k06_rows_known.main.body.getD i (.Pass ⟨0, 0, 0, 0⟩)
abbrev s_is_integer : Stmt := top 6
abbrev s_are_letters : Stmt := top 7
abbrev s_are_names : Stmt := top 8
abbrev s_is_effect : Stmt := top 9
abbrev s_are_commands : Stmt := top 10
abbrev s_is_binding : Stmt := top 11
abbrev s_are_layers : Stmt := top 12
abbrev s_is_map : Stmt := top 13
abbrev s_need_map : Stmt := top 14
abbrev s_is_time : Stmt := top 18
abbrev s_is_entry : Stmt := top 19
abbrev s_is_row : Stmt := top 20
abbrev s_spread : Stmt := top 22
abbrev s_open : Stmt := top 23
abbrev s_take : Stmt := top 24
abbrev s_wpick : Stmt := top 25
abbrev s_weffect : Stmt := top 26
abbrev s_wkeys : Stmt := top 27
abbrev s_wbinding : Stmt := top 28
abbrev s_wmap : Stmt := top 29
abbrev s_wstate : Stmt := top 30
abbrev s_wletters : Stmt := top 31
abbrev s_wrow : Stmt := top 32
abbrev s_wis_entry : Stmt := top 33
abbrev s_wis_row : Stmt := top 34
abbrev s_wwrong : Stmt := top 35
abbrev s_wbad_row : Stmt := top 36
abbrev s_law : Stmt := top 37
/-- what of the top is used -/
structure Txt (K : PySem.W.Frag) (mg : Str → Option Value) : Prop where
  sysd : SysD K
  n_all : mg "all" = none
  n_bool : mg "bool" = none
  n_dict : mg "dict" = none
  n_enumerate : mg "enumerate" = none
  n_int : mg "int" = none
  n_isinstance : mg "isinstance" = none
  n_len : mg "len" = none
  n_list : mg "list" = none
  n_range : mg "range" = none
  n_repr : mg "repr" = none
  n_sorted : mg "sorted" = none
  n_str : mg "str" = none
  n_sum : mg "sum" = none
  n_tuple : mg "tuple" = none
  n_zip : mg "zip" = none
  c_LETTERS : ∃ t, mg "LETTERS" = some (.str "abcdefghijklmnopqrstuvwxyz" t)
  c_MOST_ENTRIES : ∃ t, mg "MOST_ENTRIES" = some (.int 300 t)
  c_MOST_KEYS : ∃ t, mg "MOST_KEYS" = some (.int 4 t)
  c_MOST_TIME : ∃ t, mg "MOST_TIME" = some (.int 1000000000 t)
  d_is_integer : IsDef K mg "is_integer" s_is_integer
  d_are_letters : IsDef K mg "are_letters" s_are_letters
  d_are_names : IsDef K mg "are_names" s_are_names
  d_is_effect : IsDef K mg "is_effect" s_is_effect
  d_are_commands : IsDef K mg "are_commands" s_are_commands
  d_is_binding : IsDef K mg "is_binding" s_is_binding
  d_are_layers : IsDef K mg "are_layers" s_are_layers
  d_is_map : IsDef K mg "is_map" s_is_map
  d_need_map : IsDef K mg "need_map" s_need_map
  d_is_time : IsDef K mg "is_time" s_is_time
  d_is_entry : IsDef K mg "is_entry" s_is_entry
  d_is_row : IsDef K mg "is_row" s_is_row
  d_spread : IsDef K mg "_law_spread" s_spread
  d_open : IsDef K mg "_law_open" s_open
  d_take : IsDef K mg "_law_take" s_take
  d_wpick : IsDef K mg "_law_w_pick" s_wpick
  d_weffect : IsDef K mg "_law_w_effect" s_weffect
  d_wkeys : IsDef K mg "_law_w_keys" s_wkeys
  d_wbinding : IsDef K mg "_law_w_binding" s_wbinding
  d_wmap : IsDef K mg "_law_w_map" s_wmap
  d_wstate : IsDef K mg "_law_w_state" s_wstate
  d_wletters : IsDef K mg "_law_w_letters" s_wletters
  d_wrow : IsDef K mg "_law_w_row" s_wrow
  d_wis_entry : IsDef K mg "_law_w_is_entry" s_wis_entry
  d_wis_row : IsDef K mg "_law_w_is_row" s_wis_row
  d_wwrong : IsDef K mg "_law_w_wrong" s_wwrong
  d_wbad_row : IsDef K mg "_law_w_bad_row" s_wbad_row
  d_law : IsDef K mg "law" s_law
/-! ### readings -/
theorem sc_is_integer : FnScope N_is_integer P_is_integer (defScope s_is_integer) := ⟨rfl, rfl, rfl, by decide +kernel, rfl, by decide +kernel, by decide +kernel⟩
theorem sc_are_letters : FnScope N_are_letters P_are_letters (defScope s_are_letters) := ⟨rfl, rfl, rfl, by decide +kernel, rfl, by decide +kernel, by decide +kernel⟩
theorem sc_are_names : FnScope N_are_names P_are_names (defScope s_are_names) := ⟨rfl, rfl, rfl, by decide +kernel, rfl, by decide +kernel, by decide +kernel⟩
theorem sc_is_effect : FnScope N_is_effect P_is_effect (defScope s_is_effect) := ⟨rfl, rfl, rfl, by decide +kernel, rfl, by decide +kernel, by decide +kernel⟩
theorem sc_are_commands : FnScope N_are_commands P_are_commands (defScope s_are_commands) := ⟨rfl, rfl, rfl, by decide +kernel, rfl, by decide +kernel, by decide +kernel⟩
theorem sc_is_binding : FnScope N_is_binding P_is_binding (defScope s_is_binding) := ⟨rfl, rfl, rfl, by decide +kernel, rfl, by decide +kernel, by decide +kernel⟩
theorem sc_are_layers : FnScope N_are_layers P_are_layers (defScope s_are_layers) := ⟨rfl, rfl, rfl, by decide +kernel, rfl, by decide +kernel, by decide +kernel⟩
theorem sc_is_map : FnScope N_is_map P_is_map (defScope s_is_map) := ⟨rfl, rfl, rfl, by decide +kernel, rfl, by decide +kernel, by decide +kernel⟩
theorem sc_need_map : FnScope N_need_map P_need_map (defScope s_need_map) := ⟨rfl, rfl, rfl, by decide +kernel, rfl, by decide +kernel, by decide +kernel⟩
theorem sc_is_time : FnScope N_is_time P_is_time (defScope s_is_time) := ⟨rfl, rfl, rfl, by decide +kernel, rfl, by decide +kernel, by decide +kernel⟩
theorem sc_is_entry : FnScope N_is_entry P_is_entry (defScope s_is_entry) := ⟨rfl, rfl, rfl, by decide +kernel, rfl, by decide +kernel, by decide +kernel⟩
theorem sc_is_row : FnScope N_is_row P_is_row (defScope s_is_row) := ⟨rfl, rfl, rfl, by decide +kernel, rfl, by decide +kernel, by decide +kernel⟩
theorem sc_spread : FnScope N_spread P_spread (defScope s_spread) := ⟨rfl, rfl, rfl, by decide +kernel, rfl, by decide +kernel, by decide +kernel⟩
theorem sc_open : FnScope N_open P_open (defScope s_open) := ⟨rfl, rfl, rfl, by decide +kernel, rfl, by decide +kernel, by decide +kernel⟩
theorem sc_take : FnScope N_take P_take (defScope s_take) := ⟨rfl, rfl, rfl, by decide +kernel, rfl, by decide +kernel, by decide +kernel⟩
theorem sc_wpick : FnScope N_wpick P_wpick (defScope s_wpick) := ⟨rfl, rfl, rfl, by decide +kernel, rfl, by decide +kernel, by decide +kernel⟩
theorem sc_weffect : FnScope N_weffect P_weffect (defScope s_weffect) := ⟨rfl, rfl, rfl, by decide +kernel, rfl, by decide +kernel, by decide +kernel⟩
theorem sc_wkeys : FnScope N_wkeys P_wkeys (defScope s_wkeys) := ⟨rfl, rfl, rfl, by decide +kernel, rfl, by decide +kernel, by decide +kernel⟩
theorem sc_wbinding : FnScope N_wbinding P_wbinding (defScope s_wbinding) := ⟨rfl, rfl, rfl, by decide +kernel, rfl, by decide +kernel, by decide +kernel⟩
theorem sc_wmap : FnScope N_wmap P_wmap (defScope s_wmap) := ⟨rfl, rfl, rfl, by decide +kernel, rfl, by decide +kernel, by decide +kernel⟩
theorem sc_wstate : FnScope N_wstate P_wstate (defScope s_wstate) := ⟨rfl, rfl, rfl, by decide +kernel, rfl, by decide +kernel, by decide +kernel⟩
theorem sc_wletters : FnScope N_wletters P_wletters (defScope s_wletters) := ⟨rfl, rfl, rfl, by decide +kernel, rfl, by decide +kernel, by decide +kernel⟩
theorem sc_wrow : FnScope N_wrow P_wrow (defScope s_wrow) := ⟨rfl, rfl, rfl, by decide +kernel, rfl, by decide +kernel, by decide +kernel⟩
theorem sc_wis_entry : FnScope N_wis_entry P_wis_entry (defScope s_wis_entry) := ⟨rfl, rfl, rfl, by decide +kernel, rfl, by decide +kernel, by decide +kernel⟩
theorem sc_wis_row : FnScope N_wis_row P_wis_row (defScope s_wis_row) := ⟨rfl, rfl, rfl, by decide +kernel, rfl, by decide +kernel, by decide +kernel⟩
theorem sc_wwrong : FnScope N_wwrong P_wwrong (defScope s_wwrong) := ⟨rfl, rfl, rfl, by decide +kernel, rfl, by decide +kernel, by decide +kernel⟩
theorem sc_wbad_row : FnScope N_wbad_row P_wbad_row (defScope s_wbad_row) := ⟨rfl, rfl, rfl, by decide +kernel, rfl, by decide +kernel, by decide +kernel⟩
abbrev N_law : List Str := ["_law_script", "_law_pen", "_law_turn", "_law_keymap", "_law_row", "_law_many", "_law_things", "_law_thing", "_law_seen", "_law_found", "_law_again"]
abbrev P_law : List Str := ["_law_script"]
theorem sc_law : FnScope N_law P_law (defScope s_law) := ⟨rfl, rfl, rfl, by decide +kernel, rfl, by decide +kernel, by decide +kernel⟩
def rd_law : TDS :=
  (dSeq (dSet 1 (dCallU 1 F_open (zFz (dVar 0) zNil)))
  (dSeq (dFor (dRng1 (zFz (dC (.int 4)) zNil)) (gN 2) (dSeq (dSet 3 (dCallI 1 2 F_wmap (zFz (dC (.int 6)) zNil)))
  (dSeq (dSet 4 (dCallI 1 3 F_wrow (zFz (dVar 3) (zFz (dC (.int 8)) zNil))))
  (dSeq (dSet 5 (dBin addD (dC (.int 299)) (dCallI 1 2 F_take (zFz (dC (.int 4)) zNil))))
  (dSeq (dSet 6 (dBin addD (dLstE (zFz (dVar 4) (zFz (dBin repD (dLstE (zFz (dTupE (zFz (dC (.str "key")) (zFz (dC (.str "a")) (zFz (dC (.int 3)) zNil)))) zNil)) (dVar 5)) zNil))) (dComp (dRng1 (zFz (dC (.int 4)) zNil)) (gN 10) dYes (dCallI 1 3 F_wbad_row (zFz (dVar 3) (zFz (dVar 4) zNil))) [10])))
  (dFor (dIter (dVar 6)) (gN 7) (dSeq (dSet 8 (dCall reprD (dCons (dVar 7) dNil)))
  (dSeq (dSet 9 (dCallU 2 F_is_row (zFz (dVar 3) (zFz (dVar 7) zNil))))
  (dIfS (dOr (dNot (dTru (dIsi .bool (dVar 9)))) (dOr (dTst (dBin neD (dVar 9) (dCallU 2 F_wis_row (zFz (dVar 3) (zFz (dVar 7) zNil))))) (dTst (dBin neD (dCall reprD (dCons (dVar 7) dNil)) (dVar 8))))) (dRet (dC (.bl false))) dNext)))))))))
  (dRet (dC (.bl true)))))
def F_law : List D → (D → Prop) → Prop := runP rd_law N_law
/-! ### promises -/
section
variable {P : Program} {w : World} {K : PySem.W.Frag} {mg : Str → Option Value} {base : Heap}
theorem fn_is_integer (T : Txt K mg) : DefOk P w K mg base 1 "is_integer" P_is_integer (spP w K 3 F_is_integer) := by
  exact pureDef T.d_is_integer sc_is_integer rfl (fun _ _ _ _ _ _ us hl => match us, hl with | [_, _, _], _ => rfl) fun cdv A outer s H E hg hr =>
    (pds_one (pd_ret (pd_and (pd_isi .int (pd_var 0) rfl T.n_isinstance rfl T.n_int) (pd_and (pd_not (pd_isi .bool (pd_var 0) rfl T.n_isinstance rfl T.n_bool)) (pd_one (pd_chain od_le od_le (pd_var 1) (pd_var 0) (pd_var 2)))))))
theorem fn_are_letters (T : Txt K mg) : DefOk P w K mg base 1 "are_letters" P_are_letters (spP w K 3 F_are_letters) := by
  exact pureDef T.d_are_letters sc_are_letters rfl (fun _ _ _ _ _ _ us hl => match us, hl with | [_, _, _], _ => rfl) fun cdv A outer s H E hg hr =>
    (pds_one (pd_ret (pd_and (pd_isi .str (pd_var 0) rfl T.n_isinstance rfl T.n_str) (pd_and (pd_chain od_le od_le (pd_var 1) (pd_callB cd_len rfl T.n_len (by decide +kernel) (pda_cons (pd_var 0) pda_nil)) (pd_var 2)) (pd_one (pd_callB (cd_all rfl) rfl T.n_all (by decide +kernel) (pda_cons (pd_lc (own := [("sign", 3)]) (ws := [3]) rfl sc_are_letters.nd (.inr rfl) (by decide) (pi_any (pd_var 0)) (blkOk_by (own := [("sign", 3)]) (N := N_are_letters) (sc := defScope s_are_letters) (by decide +kernel)) (fun _ _ _ _ _ => (gd_name 3 sc_are_letters.nd (.inr rfl))) (fun _ _ _ _ _ => pts_d0) (fun _ _ _ _ _ => (pd_cmp (od_in (huK hr)) (pd_var 3) (pd_gstr rfl T.c_LETTERS)))) pda_nil)))))))
theorem fn_are_names (T : Txt K mg) : DefOk P w K mg base 2 "are_names" P_are_names (spP w K 2 F_are_names) := by
  have D_are_letters := fn_are_letters (P := P) (w := w) (base := base) T
  exact pureDef T.d_are_names sc_are_names rfl (fun _ _ _ _ _ _ us hl => match us, hl with | [_, _], _ => rfl) fun cdv A outer s H E hg hr =>
    (pds_cons (pd_if (pdt_bool (pdw_or (pdt_not (pd_tru (pd_isi .tuple (pd_var 0) rfl T.n_isinstance rfl T.n_tuple))) (pdw_or (pdt_cmp od_gt (pd_callB cd_len rfl T.n_len (by decide +kernel) (pda_cons (pd_var 0) pda_nil)) (pd_var 1)) (pdw_or1 (pdt_not (pd_tru (pd_callB (cd_all rfl) rfl T.n_all (by decide +kernel) (pda_cons (pd_lc (own := [("name", 4)]) (ws := [4]) rfl sc_are_names.nd (.inr rfl) (by decide) (pi_any (pd_var 0)) (blkOk_by (own := [("name", 4)]) (N := N_are_names) (sc := defScope s_are_names) (by decide +kernel)) (fun _ _ _ _ _ => (gd_name 4 sc_are_names.nd (.inr rfl))) (fun _ _ _ _ _ => pts_d0) (fun _ _ _ _ _ => (pd_callD (D_are_letters) hg hr rfl (pf_cons (pd_var 4) (pf_cons pd_int (pf_cons pd_int pf_nil)))))) pda_nil)))))))) (pds_one (pd_ret pd_bl)) pds_nil)
    (pds_one (pd_ret (pd_callB (cd_all rfl) rfl T.n_all (by decide +kernel) (pda_cons (pd_lc (own := [("one", 2), ("other", 3)]) (ws := [2, 3]) rfl sc_are_names.nd (.inr rfl) (by decide) (pi_zipF rfl T.n_zip (pf_cons (pd_var 0) (pf_cons (pd_slice (pd_var 0) (pod_some pd_int) pod_none) pf_nil)) pe_bl) (blkOk_by (own := [("one", 2), ("other", 3)]) (N := N_are_names) (sc := defScope s_are_names) (by decide +kernel)) (fun _ _ _ _ _ => (gd_tup rfl (gds_cons (gd_name 2 sc_are_names.nd (.inr rfl)) (gds_cons (gd_name 3 sc_are_names.nd (.inr rfl)) gds_nil)))) (fun _ _ _ _ _ => pts_d0) (fun _ _ _ _ _ => (pd_cmp od_lt (pd_var 2) (pd_var 3)))) pda_nil)))))
theorem fn_is_effect (T : Txt K mg) : DefOk P w K mg base 1 "is_effect" P_is_effect (spP w K 2 F_is_effect) := by
  exact pureDef T.d_is_effect sc_is_effect rfl (fun _ _ _ _ _ _ us hl => match us, hl with | [_, _], _ => rfl) fun cdv A outer s H E hg hr =>
    (pds_cons (pd_if (pdt_bool (pdw_or (pdt_not (pd_tru (pd_isi .dict (pd_var 1) rfl T.n_isinstance rfl T.n_dict))) (pdw_or1 (pdt_not (pd_tru (pd_callB (cd_all rfl) rfl T.n_all (by decide +kernel) (pda_cons (pd_lc (own := [("flag", 2)]) (ws := [2]) rfl sc_is_effect.nd (.inr rfl) (by decide) (pi_any (pd_var 1)) (blkOk_by (own := [("flag", 2)]) (N := N_is_effect) (sc := defScope s_is_effect) (by decide +kernel)) (fun _ _ _ _ _ => (gd_name 2 sc_is_effect.nd (.inr rfl))) (fun _ _ _ _ _ => pts_d0) (fun _ _ _ _ _ => (pd_cmp (od_in (huK hr)) (pd_var 2) (pd_var 0)))) pda_nil))))))) (pds_one (pd_ret pd_bl)) pds_nil)
    (pds_one (pd_ret (pd_callB (cd_all rfl) rfl T.n_all (by decide +kernel) (pda_cons (pd_lc (own := [("flag", 2)]) (ws := [2]) rfl sc_is_effect.nd (.inr rfl) (by decide) (pi_any (pd_var 1)) (blkOk_by (own := [("flag", 2)]) (N := N_is_effect) (sc := defScope s_is_effect) (by decide +kernel)) (fun _ _ _ _ _ => (gd_name 2 sc_is_effect.nd (.inr rfl))) (fun _ _ _ _ _ => pts_d0) (fun _ _ _ _ _ => (pd_isi .bool (pd_ix (huK hr) (pd_var 1) (pd_var 2)) rfl T.n_isinstance rfl T.n_bool))) pda_nil)))))
theorem fn_are_commands (T : Txt K mg) : DefOk P w K mg base 2 "are_commands" P_are_commands (spP w K 2 F_are_commands) := by
  have D_are_letters := fn_are_letters (P := P) (w := w) (base := base) T
  have D_is_effect := fn_is_effect (P := P) (w := w) (base := base) T
  exact pureDef T.d_are_commands sc_are_commands rfl (fun _ _ _ _ _ _ us hl => match us, hl with | [_, _], _ => rfl) fun cdv A outer s H E hg hr =>
    (pds_cons (pd_if (pdt_bool (pdw_or (pdt_not (pd_tru (pd_isi .dict (pd_var 1) rfl T.n_isinstance rfl T.n_dict))) (pdw_or (pdt_cmp od_gt (pd_callB cd_len rfl T.n_len (by decide +kernel) (pda_cons (pd_var 1) pda_nil)) pd_int) (pdw_or1 (pdt_not (pd_tru (pd_callB (cd_all rfl) rfl T.n_all (by decide +kernel) (pda_cons (pd_lc (own := [("name", 2)]) (ws := [2]) rfl sc_are_commands.nd (.inr rfl) (by decide) (pi_any (pd_var 1)) (blkOk_by (own := [("name", 2)]) (N := N_are_commands) (sc := defScope s_are_commands) (by decide +kernel)) (fun _ _ _ _ _ => (gd_name 2 sc_are_commands.nd (.inr rfl))) (fun _ _ _ _ _ => pts_d0) (fun _ _ _ _ _ => (pd_callD (D_are_letters) hg hr rfl (pf_cons (pd_var 2) (pf_cons pd_int (pf_cons pd_int pf_nil)))))) pda_nil)))))))) (pds_one (pd_ret pd_bl)) pds_nil)
    (pds_one (pd_ret (pd_callB (cd_all rfl) rfl T.n_all (by decide +kernel) (pda_cons (pd_lc (own := [("name", 2)]) (ws := [2]) rfl sc_are_commands.nd (.inr rfl) (by decide) (pi_any (pd_var 1)) (blkOk_by (own := [("name", 2)]) (N := N_are_commands) (sc := defScope s_are_commands) (by decide +kernel)) (fun _ _ _ _ _ => (gd_name 2 sc_are_commands.nd (.inr rfl))) (fun _ _ _ _ _ => pts_d0) (fun _ _ _ _ _ => (pd_callD (D_is_effect) hg hr rfl (pf_cons (pd_var 0) (pf_cons (pd_ix (huK hr) (pd_var 1) (pd_var 2)) pf_nil))))) pda_nil)))))
theorem fn_is_binding (T : Txt K mg) : DefOk P w K mg base 2 "is_binding" P_is_binding (spP w K 3 F_is_binding) := by
  have D_are_letters := fn_are_letters (P := P) (w := w) (base := base) T
  have D_is_effect := fn_is_effect (P := P) (w := w) (base := base) T
  exact pureDef T.d_is_binding sc_is_binding rfl (fun _ _ _ _ _ _ us hl => match us, hl with | [_, _, _], _ => rfl) fun cdv A outer s H E hg hr =>
    (pds_cons (pd_if (pdt_bool (pdw_or (pdt_not (pd_tru (pd_isi .tuple (pd_var 2) rfl T.n_isinstance rfl T.n_tuple))) (pdw_or1 (pdt_cmp (od_ne (huK hr)) (pd_callB cd_len rfl T.n_len (by decide +kernel) (pda_cons (pd_var 2) pda_nil)) pd_int)))) (pds_one (pd_ret pd_bl)) pds_nil)
    (pds_cons (pd_asg (pd_var 2) (gd_tup rfl (gds_cons (gd_name 3 sc_is_binding.nd (.inr rfl)) (gds_cons (gd_name 4 sc_is_binding.nd (.inr rfl)) (gds_cons (gd_name 5 sc_is_binding.nd (.inr rfl)) gds_nil)))))
    (pds_cons (pd_if (pdt_bool (pdw_or (pdt_not (pd_tru (pd_callD (D_are_letters) hg hr rfl (pf_cons (pd_var 3) (pf_cons pd_int (pf_cons (pd_gint rfl T.c_MOST_KEYS) pf_nil)))))) (pdw_or1 (pdt_not (pd_tru (pd_callD (D_is_effect) hg hr rfl (pf_cons (pd_var 0) (pf_cons (pd_var 4) pf_nil)))))))) (pds_one (pd_ret pd_bl)) pds_nil)
    (pds_one (pd_ret (pd_or (pd_cmp od_is (pd_var 5) pd_non) (pd_one (pd_and (pd_isi .str (pd_var 5) rfl T.n_isinstance rfl T.n_str) (pd_one (pd_cmp (od_in (huK hr)) (pd_var 5) (pd_var 1)))))))))))
theorem fn_are_layers (T : Txt K mg) : DefOk P w K mg base 3 "are_layers" P_are_layers (spP w K 3 F_are_layers) := by
  have D_is_binding := fn_is_binding (P := P) (w := w) (base := base) T
  exact pureDef T.d_are_layers sc_are_layers rfl (fun _ _ _ _ _ _ us hl => match us, hl with | [_, _, _], _ => rfl) fun cdv A outer s H E hg hr =>
    (pds_cons (pd_if (pdt_bool (pdw_or (pdt_not (pd_tru (pd_isi .tuple (pd_var 2) rfl T.n_isinstance rfl T.n_tuple))) (pdw_or1 (pdt_not (pdt_chain od_le od_le pd_int (pd_callB cd_len rfl T.n_len (by decide +kernel) (pda_cons (pd_var 2) pda_nil)) pd_int))))) (pds_one (pd_ret pd_bl)) pds_nil)
    (pds_cons (pd_if (pdt_bool (pdw_or (pdt_not (pd_tru (pd_callB (cd_all rfl) rfl T.n_all (by decide +kernel) (pda_cons (pd_lc (own := [("layer", 3)]) (ws := [3]) rfl sc_are_layers.nd (.inr rfl) (by decide) (pi_any (pd_var 2)) (blkOk_by (own := [("layer", 3)]) (N := N_are_layers) (sc := defScope s_are_layers) (by decide +kernel)) (fun _ _ _ _ _ => (gd_name 3 sc_are_layers.nd (.inr rfl))) (fun _ _ _ _ _ => pts_d0) (fun _ _ _ _ _ => (pd_isi .tuple (pd_var 3) rfl T.n_isinstance rfl T.n_tuple))) pda_nil)))) (pdw_or1 (pdt_cmp od_gt (pd_callB (cd_sum rfl) rfl T.n_sum (by decide +kernel) (pda_cons (pd_lc (own := [("layer", 3)]) (ws := [3]) rfl sc_are_layers.nd (.inr rfl) (by decide) (pi_any (pd_var 2)) (blkOk_by (own := [("layer", 3)]) (N := N_are_layers) (sc := defScope s_are_layers) (by decide +kernel)) (fun _ _ _ _ _ => (gd_name 3 sc_are_layers.nd (.inr rfl))) (fun _ _ _ _ _ => pts_d0) (fun _ _ _ _ _ => (pd_callB cd_len rfl T.n_len (by decide +kernel) (pda_cons (pd_var 3) pda_nil)))) pda_nil)) pd_int)))) (pds_one (pd_ret pd_bl)) pds_nil)
    (pds_one (pd_ret (pd_callB (cd_all rfl) rfl T.n_all (by decide +kernel) (pda_cons (pd_lc2 (own := [("layer", 3), ("binding", 4)]) (ws := [3]) (ws1 := [4]) (vs1 := [4]) rfl sc_are_layers.nd (.inr rfl) (by decide) (by decide) (by decide) (pi_any (pd_var 2)) (blkOk_by (own := [("layer", 3), ("binding", 4)]) (N := N_are_layers) (sc := defScope s_are_layers) (by decide +kernel)) (fun _ _ _ _ _ => (gd_name 3 sc_are_layers.nd (.inr rfl))) (fun _ _ _ _ _ => pts_d0) (fun _ _ _ _ _ => (pi_any (pd_var 3))) (fun _ _ _ _ _ => (gd_name 4 sc_are_layers.nd (.inr rfl))) (fun _ _ _ _ _ => pts_d0) (fun _ _ _ _ _ => (pd_callD (D_is_binding) hg hr rfl (pf_cons (pd_var 0) (pf_cons (pd_var 1) (pf_cons (pd_var 4) pf_nil)))))) pda_nil))))))
theorem fn_is_map (T : Txt K mg) : DefOk P w K mg base 4 "is_map" P_is_map (spP w K 1 F_is_map) := by
  have D_are_commands := fn_are_commands (P := P) (w := w) (base := base) T
  have D_are_layers := fn_are_layers (P := P) (w := w) (base := base) T
  have D_are_names := fn_are_names (P := P) (w := w) (base := base) T
  have D_is_integer := fn_is_integer (P := P) (w := w) (base := base) T
  exact pureDef T.d_is_map sc_is_map rfl (fun _ _ _ _ _ _ us hl => match us, hl with | [_], _ => rfl) fun cdv A outer s H E hg hr =>
    (pds_cons (pd_if (pdt_bool (pdw_or (pdt_not (pd_tru (pd_isi .tuple (pd_var 0) rfl T.n_isinstance rfl T.n_tuple))) (pdw_or1 (pdt_cmp (od_ne (huK hr)) (pd_callB cd_len rfl T.n_len (by decide +kernel) (pda_cons (pd_var 0) pda_nil)) pd_int)))) (pds_one (pd_ret pd_bl)) pds_nil)
    (pds_cons (pd_asg (pd_var 0) (gd_tup rfl (gds_cons (gd_name 1 sc_is_map.nd (.inr rfl)) (gds_cons (gd_name 2 sc_is_map.nd (.inr rfl)) (gds_cons (gd_name 3 sc_is_map.nd (.inr rfl)) (gds_cons (gd_name 4 sc_is_map.nd (.inr rfl)) (gds_cons (gd_name 5 sc_is_map.nd (.inr rfl)) gds_nil)))))))
    (pds_cons (pd_if (pdt_bool (pdw_or (pdt_not (pd_tru (pd_callD (D_are_names) hg (hr.mono (by decide)) rfl (pf_cons (pd_var 1) (pf_cons pd_int pf_nil))))) (pdw_or (pdt_not (pd_tru (pd_callD (D_are_names) hg (hr.mono (by decide)) rfl (pf_cons (pd_var 2) (pf_cons pd_int pf_nil))))) (pdw_or1 (pdt_not (pd_tru (pd_callB (cd_all rfl) rfl T.n_all (by decide +kernel) (pda_cons (pd_lc (own := [("flag", 6)]) (ws := [6]) rfl sc_is_map.nd (.inr rfl) (by decide) (pi_any (pd_var 2)) (blkOk_by (own := [("flag", 6)]) (N := N_is_map) (sc := defScope s_is_map) (by decide +kernel)) (fun _ _ _ _ _ => (gd_name 6 sc_is_map.nd (.inr rfl))) (fun _ _ _ _ _ => pts_d0) (fun _ _ _ _ _ => (pd_cmp (od_in (huK hr)) (pd_var 6) (pd_var 1)))) pda_nil)))))))) (pds_one (pd_ret pd_bl)) pds_nil)
    (pds_one (pd_ret (pd_and (pd_callD (D_are_commands) hg (hr.mono (by decide)) rfl (pf_cons (pd_var 1) (pf_cons (pd_var 3) pf_nil))) (pd_and (pd_callD (D_are_layers) hg hr rfl (pf_cons (pd_var 1) (pf_cons (pd_var 3) (pf_cons (pd_var 4) pf_nil)))) (pd_one (pd_callD (D_is_integer) hg (hr.mono (by decide)) rfl (pf_cons (pd_var 5) (pf_cons pd_int (pf_cons pd_int pf_nil))))))))))))
theorem fn_need_map (T : Txt K mg) : DefOk P w K mg base 5 "need_map" P_need_map (spP w K 1 F_need_map) := by
  have D_is_map := fn_is_map (P := P) (w := w) (base := base) T
  exact pureDef T.d_need_map sc_need_map rfl (fun _ _ _ _ _ _ us hl => match us, hl with | [_], _ => rfl) fun cdv A outer s H E hg hr =>
    (pds_one (pd_if (pdt_not (pd_tru (pd_callD (D_is_map) hg hr rfl (pf_cons (pd_var 0) pf_nil)))) (pds_one pd_never) pds_nil))
theorem fn_is_time (T : Txt K mg) : DefOk P w K mg base 2 "is_time" P_is_time (spP w K 1 F_is_time) := by
  have D_is_integer := fn_is_integer (P := P) (w := w) (base := base) T
  exact pureDef T.d_is_time sc_is_time rfl (fun _ _ _ _ _ _ us hl => match us, hl with | [_], _ => rfl) fun cdv A outer s H E hg hr =>
    (pds_one (pd_ret (pd_callD (D_is_integer) hg hr rfl (pf_cons (pd_var 0) (pf_cons pd_int (pf_cons (pd_gint rfl T.c_MOST_TIME) pf_nil))))))
theorem fn_is_entry (T : Txt K mg) : DefOk P w K mg base 3 "is_entry" P_is_entry (spP w K 2 F_is_entry) := by
  have D_are_letters := fn_are_letters (P := P) (w := w) (base := base) T
  have D_is_time := fn_is_time (P := P) (w := w) (base := base) T
  exact pureDef T.d_is_entry sc_is_entry rfl (fun _ _ _ _ _ _ us hl => match us, hl with | [_, _], _ => rfl) fun cdv A outer s H E hg hr =>
    (pds_cons (pd_if (pdt_bool (pdw_or (pdt_not (pd_tru (pd_isi .tuple (pd_var 1) rfl T.n_isinstance rfl T.n_tuple))) (pdw_or1 (pdt_not (pd_tru (pd_callD (D_is_time) hg hr rfl (pf_cons (pd_ifExp (pdt_cmp (od_ne (huK hr)) (pd_var 1) (pd_tup pz_nil)) (pd_ix (huK hr) (pd_var 1) (pd_un ud_neg pd_int)) pd_non) pf_nil))))))) (pds_one (pd_ret pd_bl)) pds_nil)
    (pds_cons (pd_if (pdt_cmp (od_eq (huK hr)) (pd_callB cd_len rfl T.n_len (by decide +kernel) (pda_cons (pd_var 1) pda_nil)) pd_int) (pds_one (pd_ret (pd_and (pd_cmp (od_eq (huK hr)) (pd_ix (huK hr) (pd_var 1) pd_int) pd_str) (pd_one (pd_callD (D_are_letters) hg (hr.mono (by decide)) rfl (pf_cons (pd_ix (huK hr) (pd_var 1) pd_int) (pf_cons pd_int (pf_cons pd_int pf_nil)))))))) pds_nil)
    (pds_one (pd_ret (pd_and (pd_cmp (od_eq (huK hr)) (pd_callB cd_len rfl T.n_len (by decide +kernel) (pda_cons (pd_var 1) pda_nil)) pd_int) (pd_and (pd_cmp (od_eq (huK hr)) (pd_ix (huK hr) (pd_var 1) pd_int) pd_str) (pd_and (pd_cmp (od_in (huK hr)) (pd_ix (huK hr) (pd_var 1) pd_int) (pd_ix (huK hr) (pd_var 0) pd_int)) (pd_one (pd_isi .bool (pd_ix (huK hr) (pd_var 1) pd_int) rfl T.n_isinstance rfl T.n_bool)))))))))
theorem fn_is_row (T : Txt K mg) : DefOk P w K mg base 6 "is_row" P_is_row (spP w K 2 F_is_row) := by
  have D_is_entry := fn_is_entry (P := P) (w := w) (base := base) T
  have D_need_map := fn_need_map (P := P) (w := w) (base := base) T
  exact pureDef T.d_is_row sc_is_row rfl (fun _ _ _ _ _ _ us hl => match us, hl with | [_, _], _ => rfl) fun cdv A outer s H E hg hr =>
    (pds_cons (pd_expr (pd_callD (D_need_map) hg hr rfl (pf_cons (pd_var 0) pf_nil)))
    (pds_cons (pd_if (pdt_bool (pdw_or (pdt_not (pd_tru (pd_isi .list (pd_var 1) rfl T.n_isinstance rfl T.n_list))) (pdw_or (pdt_cmp od_gt (pd_callB cd_len rfl T.n_len (by decide +kernel) (pda_cons (pd_var 1) pda_nil)) (pd_gint rfl T.c_MOST_ENTRIES)) (pdw_or1 (pdt_not (pd_tru (pd_callB (cd_all rfl) rfl T.n_all (by decide +kernel) (pda_cons (pd_lc (own := [("one", 2)]) (ws := [2]) rfl sc_is_row.nd (.inr rfl) (by decide) (pi_any (pd_var 1)) (blkOk_by (own := [("one", 2)]) (N := N_is_row) (sc := defScope s_is_row) (by decide +kernel)) (fun _ _ _ _ _ => (gd_name 2 sc_is_row.nd (.inr rfl))) (fun _ _ _ _ _ => pts_d0) (fun _ _ _ _ _ => (pd_callD (D_is_entry) hg (hr.mono (by decide)) rfl (pf_cons (pd_var 0) (pf_cons (pd_var 2) pf_nil))))) pda_nil)))))))) (pds_one (pd_ret pd_bl)) pds_nil)
    (pds_one (pd_ret (pd_callB (cd_all rfl) rfl T.n_all (by decide +kernel) (pda_cons (pd_lc (own := [("one", 2), ("other", 3)]) (ws := [2, 3]) rfl sc_is_row.nd (.inr rfl) (by decide) (pi_zipF rfl T.n_zip (pf_cons (pd_var 1) (pf_cons (pd_slice (pd_var 1) (pod_some pd_int) pod_none) pf_nil)) pe_bl) (blkOk_by (own := [("one", 2), ("other", 3)]) (N := N_is_row) (sc := defScope s_is_row) (by decide +kernel)) (fun _ _ _ _ _ => (gd_tup rfl (gds_cons (gd_name 2 sc_is_row.nd (.inr rfl)) (gds_cons (gd_name 3 sc_is_row.nd (.inr rfl)) gds_nil)))) (fun _ _ _ _ _ => pts_d0) (fun _ _ _ _ _ => (pd_cmp od_le (pd_ix (huK hr) (pd_var 2) (pd_un ud_neg pd_int)) (pd_ix (huK hr) (pd_var 3) (pd_un ud_neg pd_int))))) pda_nil))))))
theorem fn_spread (T : Txt K mg) : DefOk P w K mg base 1 "_law_spread" P_spread (spP w K 2 F_spread) := by
  exact pureDef T.d_spread sc_spread rfl (fun _ _ _ _ _ _ us hl => match us, hl with | [_, _], _ => rfl) fun cdv A outer s H E hg hr =>
    (pds_cons (pd_if (pdt_cmp od_ge (pd_var 0) (pd_bin od_pow pd_int pd_int)) (pds_one (pd_ret (pd_var 0))) pds_nil)
    (pds_cons (pd_set 2 sc_spread.nd (.inr rfl) (pd_lst (pz_fz pd_int (pz_fz pd_int (pz_fz pd_int (pz_fz pd_int (pz_fz pd_int (pz_fz pd_int (pz_fz pd_int (pz_fz pd_int pz_nil))))))))))
    (pds_cons (pd_set 2 sc_spread.nd (.inr rfl) (pd_bin od_add (pd_var 2) (pd_lst (pz_fz pd_int (pz_fz pd_int (pz_fz pd_int (pz_fz pd_int (pz_fz pd_int pz_nil))))))))
    (pds_cons (pd_set 3 sc_spread.nd (.inr rfl) (pd_bin od_mod (pd_bin od_pow (pd_bin od_add (pd_bin od_add (pd_bin od_mul (pd_bin od_mod (pd_var 0) pd_int) (pd_bin od_add (pd_bin od_mul pd_int (pd_var 1)) pd_int)) (pd_bin od_mul (pd_var 1) pd_int)) pd_int) pd_int) (pd_ix (huK hr) (pd_var 2) (pd_bin od_mod (pd_var 1) pd_int))))
    (pds_cons (pd_set 4 sc_spread.nd (.inr rfl) (pd_bin od_mod (pd_bin od_pow (pd_bin od_add (pd_bin od_add (pd_bin od_mul (pd_var 3) (pd_bin od_add (pd_var 1) pd_int)) (pd_bin od_mod (pd_var 0) pd_int)) pd_int) pd_int) (pd_ix (huK hr) (pd_var 2) (pd_bin od_mod (pd_bin od_add (pd_var 1) pd_int) pd_int))))
    (pds_cons (pd_set 5 sc_spread.nd (.inr rfl) (pd_bin od_mod (pd_bin od_pow (pd_bin od_add (pd_bin od_add (pd_var 4) (pd_bin od_mod (pd_var 3) pd_int)) (pd_var 1)) pd_int) (pd_ix (huK hr) (pd_var 2) (pd_bin od_mod (pd_bin od_add (pd_var 1) pd_int) pd_int))))
    (pds_one (pd_ret (pd_bin od_add (pd_bin od_mul (pd_bin od_add (pd_bin od_mul (pd_var 3) pd_int) (pd_var 4)) pd_int) (pd_var 5))))))))))
theorem fn_open (T : Txt K mg) : DefOk P w K mg base 1 "_law_open" P_open (spP w K 1 F_open) := by
  exact pureDef T.d_open sc_open rfl (fun _ _ _ _ _ _ us hl => match us, hl with | [_], _ => rfl) fun cdv A outer s H E hg hr =>
    (pds_cons (pd_set 1 sc_open.nd (.inr rfl) (pd_callTy cd_list rfl T.n_list (by decide +kernel) (pda_cons (pd_slice (pd_var 0) pod_none (pod_some pd_int)) pda_nil)))
    (pds_cons (pd_for PassesOwn.never rfl (pi_en1 rfl T.n_enumerate (pf_cons (pd_slice (pd_var 0) (pod_some pd_int) (pod_some pd_int)) pf_nil)) (gd_tup rfl (gds_cons (gd_name 2 sc_open.nd (.inr rfl)) (gds_cons (gd_name 3 sc_open.nd (.inr rfl)) gds_nil))) (pds_one (pd_store 1 (huK hr) (pv 1) (pd_bin od_add (pd_ix (huK hr) (pd_var 1) (pd_bin od_mod (pd_var 2) pd_int)) (pd_var 3)) (pd_bin od_mod (pd_var 2) pd_int))))
    (pds_one (pd_ret (pd_lst (pz_fz (pd_var 1) (pz_fz pd_int (pz_fz pd_int pz_nil))))))))
theorem fn_take (T : Txt K mg) : DefOk P w K mg base 2 "_law_take" P_take (spI w K 2 F_take) := by
  have D_spread := fn_spread (P := P) (w := w) (base := base) T
  exact ioDef T.d_take sc_take rfl (fun _ _ _ _ _ _ us hl => match us, hl with | [_, _], _ => rfl) fun v0 cdv A outer s H E hg hr =>
    (pds_cons (pd_if (pdt_cmp od_lt (pd_ix (huK hr) (pd_var 0) pd_int) (pd_var 1)) (pds_cons (pd_set 2 sc_take.nd (.inl (by decide)) (pd_ix (huK hr) (pd_var 0) pd_int))
    (pds_cons (pd_set 3 sc_take.nd (.inl (by decide)) pd_int)
    (pds_cons (pd_if (pdt_cmp od_lt (pd_var 2) (pd_callB cd_len rfl T.n_len (by decide +kernel) (pda_cons (pd_ix (huK hr) (pd_var 0) pd_int) pda_nil))) (pds_one (pd_set 3 sc_take.nd (.inl (by decide)) (pd_ix (huK hr) (pd_ix (huK hr) (pd_var 0) pd_int) (pd_var 2)))) (pds_one (pd_if (pdt_cmp od_gt (pd_callB cd_len rfl T.n_len (by decide +kernel) (pda_cons (pd_ix (huK hr) (pd_var 0) pd_int) pda_nil)) pd_int) (pds_one (pd_set 3 sc_take.nd (.inl (by decide)) (pd_bin od_mod (pd_ix (huK hr) (pd_ix (huK hr) (pd_var 0) pd_int) (pd_bin od_mod (pd_bin od_add (pd_bin od_mul (pd_var 2) pd_int) pd_int) (pd_callB cd_len rfl T.n_len (by decide +kernel) (pda_cons (pd_ix (huK hr) (pd_var 0) pd_int) pda_nil)))) (pd_bin od_add (pd_bin od_pow pd_int pd_int) (pd_var 2))))) pds_nil)))
    (pds_cons (pd_store 0 (huK hr) (pv 0) (pd_bin od_add (pd_var 2) pd_int) pd_int)
    (pds_one (pd_store 0 (huK hr) (pv 0) (pd_callD (D_spread) hg hr rfl (pf_cons (pd_var 3) (pf_cons (pd_var 2) pf_nil))) pd_int)))))) pds_nil)
    (pds_cons (pd_set 4 sc_take.nd (.inl (by decide)) (pd_bin od_mod (pd_ix (huK hr) (pd_var 0) pd_int) (pd_var 1)))
    (pds_cons (pd_store 0 (huK hr) (pv 0) (pd_bin od_fdiv (pd_ix (huK hr) (pd_var 0) pd_int) (pd_var 1)) pd_int)
    (pds_one (pd_ret (pd_var 4))))))
theorem fn_wpick (T : Txt K mg) : DefOk P w K mg base 3 "_law_w_pick" P_wpick (spI w K 2 F_wpick) := by
  have D_take := fn_take (P := P) (w := w) (base := base) T
  exact ioDef T.d_wpick sc_wpick rfl (fun _ _ _ _ _ _ us hl => match us, hl with | [_, _], _ => rfl) fun v0 cdv A outer s H E hg hr =>
    (pds_one (pd_ret (pd_ix (huK hr) (pd_var 1) (pd_callID 0 (D_take) hg hr rfl (pv 0) (pf_cons (pd_callB cd_len rfl T.n_len (by decide +kernel) (pda_cons (pd_var 1) pda_nil)) pf_nil)))))
theorem fn_pickA (T : Txt K mg) : DefOk P w K mg base 3 "_law_w_pick" P_wpick (spPk w K F_take) := by
  have D_take := fn_take (P := P) (w := w) (base := base) T
  exact pickDef sc_wpick T.d_wpick D_take T.n_len (fun _ h => by unfold Gl Env.kindOf; rw [h]; rfl) (fun _ h => by unfold Gl Env.kindOf; rw [h]; rfl) (fun _ _ _ _ _ _ us hl => match us, hl with | [_, _], _ => rfl)
theorem fn_weffect (T : Txt K mg) : DefOk P w K mg base 3 "_law_w_effect" P_weffect (spI w K 2 F_weffect) := by
  have D_take := fn_take (P := P) (w := w) (base := base) T
  exact ioDef T.d_weffect sc_weffect rfl (fun _ _ _ _ _ _ us hl => match us, hl with | [_, _], _ => rfl) fun v0 cdv A outer s H E hg hr =>
    (pds_cons (pd_set 2 sc_weffect.nd (.inl (by decide)) pd_dct0)
    (pds_cons (pd_for PassesOwn.never rfl (pi_any (pd_var 1)) (gd_name 3 sc_weffect.nd (.inl (by decide))) (pds_cons (pd_set 4 sc_weffect.nd (.inl (by decide)) (pd_callID 0 (D_take) hg hr rfl (pv 0) (pf_cons pd_int pf_nil)))
    (pds_one (pd_if (pdt_cmp od_lt (pd_var 4) pd_int) (pds_one (pd_store 2 (huK hr) (pv 2) (pd_cmp (od_eq (huK hr)) (pd_var 4) pd_int) (pd_var 3))) pds_nil))))
    (pds_one (pd_ret (pd_var 2)))))
theorem fn_wkeys (T : Txt K mg) : DefOk P w K mg base 4 "_law_w_keys" P_wkeys (spI w K 2 F_wkeys) := by
  have D_wpick := fn_wpick (P := P) (w := w) (base := base) T
  exact ioDef T.d_wkeys sc_wkeys rfl (fun _ _ _ _ _ _ us hl => match us, hl with | [_, _], _ => rfl) fun v0 cdv A outer s H E hg hr =>
    (pds_cons (pd_set 2 sc_wkeys.nd (.inl (by decide)) (pd_callID 0 (D_wpick) hg hr rfl (pv 0) (pf_cons (pd_lst (pz_fz pd_int (pz_fz pd_int (pz_fz pd_int (pz_fz pd_int (pz_fz pd_int (pz_fz pd_int pz_nil))))))) pf_nil)))
    (pds_one (pd_ret (pd_meth (T := .str) (.inl rfl) PySem.F.plainAttrs_str PySem.F.slot_str_join PySem.F.type_str_join md_join pd_str (pda_cons (pd_lc (own := [("_law_turn", 3)]) (ws := [3]) rfl sc_wkeys.nd (.inl (by decide)) (by decide) (pi_rng1 rfl T.n_range (pf_cons (pd_var 2) pf_nil)) (blkOk_by (own := [("_law_turn", 3)]) (N := N_wkeys) (sc := defScope s_wkeys) (by decide +kernel)) (fun _ _ _ _ _ => (gd_name 3 sc_wkeys.nd (.inl (by decide)))) (fun _ _ _ _ _ => pts_d0) (fun _ _ _ _ _ => (pd_callID 0 (D_wpick) hg hr rfl (pv 0) (pf_cons (pd_var 1) pf_nil)))) pda_nil)))))
theorem fn_wbinding (T : Txt K mg) : DefOk P w K mg base 5 "_law_w_binding" P_wbinding (spI w K 4 F_wbinding) := by
  have D_take := fn_take (P := P) (w := w) (base := base) T
  have D_weffect := fn_weffect (P := P) (w := w) (base := base) T
  have D_wkeys := fn_wkeys (P := P) (w := w) (base := base) T
  have D_wpick := fn_wpick (P := P) (w := w) (base := base) T
  exact ioDef T.d_wbinding sc_wbinding rfl (fun _ _ _ _ _ _ us hl => match us, hl with | [_, _, _, _], _ => rfl) fun v0 cdv A outer s H E hg hr =>
    (pds_cons (pd_par 4 5 rfl sc_wbinding.nd (.inl (by decide)) (.inl (by decide)) (pz_take (pd_callID 0 (D_wkeys) hg hr rfl (pv 0) (pf_cons (pd_var 3) pf_nil)) (pz_take (pd_callID 0 (D_weffect) hg (hr.mono (by decide)) rfl (pv 0) (pf_cons (pd_var 1) pf_nil)) pz_nil)))
    (pds_cons (pd_if (pdt_bool (pdw_or (pdt_cmp (od_eq (huK hr)) (pd_var 2) (pd_lst pz_nil)) (pdw_or1 (pdt_cmp (od_eq (huK hr)) (pd_callID 0 (D_take) hg (hr.mono (by decide)) rfl (pv 0) (pf_cons pd_int pf_nil)) pd_int)))) (pds_one (pd_ret (pd_tup (pz_fz (pd_var 4) (pz_fz (pd_var 5) (pz_fz pd_non pz_nil)))))) pds_nil)
    (pds_one (pd_ret (pd_tup (pz_fz (pd_var 4) (pz_fz (pd_var 5) (pz_fz (pd_callID 0 (D_wpick) hg (hr.mono (by decide)) rfl (pv 0) (pf_cons (pd_var 2) pf_nil)) pz_nil))))))))
theorem fn_wmap (T : Txt K mg) : DefOk P w K mg base 6 "_law_w_map" P_wmap (spI w K 2 F_wmap) := by
  have D_take := fn_take (P := P) (w := w) (base := base) T
  have D_wbinding := fn_wbinding (P := P) (w := w) (base := base) T
  have D_weffect := fn_weffect (P := P) (w := w) (base := base) T
  have D_wpick := fn_wpick (P := P) (w := w) (base := base) T
  have D_pickA := fn_pickA (P := P) (w := w) (base := base) T
  exact ioDef T.d_wmap sc_wmap rfl (fun _ _ _ _ _ _ us hl => match us, hl with | [_, _], _ => rfl) fun v0 cdv A outer s H E hg hr =>
    (pds_cons (pd_set 2 sc_wmap.nd (.inl (by decide)) (pd_callTy cd_tuple rfl T.n_tuple (by decide +kernel) (pda_cons (pd_lc (own := [("_law_flag", 11)]) (ws := [11]) rfl sc_wmap.nd (.inl (by decide)) (by decide) (pi_any (pd_lst (pz_fz pd_str (pz_fz pd_str (pz_fz pd_str pz_nil))))) (blkOk_by (own := [("_law_flag", 11)]) (N := N_wmap) (sc := defScope s_wmap) (by decide +kernel)) (fun _ _ _ _ _ => (gd_name 11 sc_wmap.nd (.inl (by decide)))) (fun _ _ _ _ _ => (pts_d1 (pdt_cmp od_gt (pd_callID 0 (D_take) hg (hr.mono (by decide)) rfl (pv 0) (pf_cons pd_int pf_nil)) pd_int))) (fun _ _ _ _ _ => (pd_var 11))) pda_nil)))
    (pds_cons (pd_set 3 sc_wmap.nd (.inl (by decide)) (pd_callTy cd_tuple rfl T.n_tuple (by decide +kernel) (pda_cons (pd_lc (own := [("_law_flag", 11)]) (ws := [11]) rfl sc_wmap.nd (.inl (by decide)) (by decide) (pi_any (pd_var 2)) (blkOk_by (own := [("_law_flag", 11)]) (N := N_wmap) (sc := defScope s_wmap) (by decide +kernel)) (fun _ _ _ _ _ => (gd_name 11 sc_wmap.nd (.inl (by decide)))) (fun _ _ _ _ _ => (pts_d1 (pdt_cmp (od_eq (huK hr)) (pd_callID 0 (D_take) hg (hr.mono (by decide)) rfl (pv 0) (pf_cons pd_int pf_nil)) pd_int))) (fun _ _ _ _ _ => (pd_var 11))) pda_nil)))
    (pds_cons (pd_setLc 4 (own := [("_law_name", 10)]) (ws := [10]) rfl sc_wmap.nd (.inl (by decide)) (.inl (by decide)) (by decide) rfl rfl (sw_true rfl rfl rfl (by decide +kernel)) (pi_any (pd_lst (pz_fz pd_str (pz_fz pd_str (pz_fz pd_str (pz_fz pd_str (pz_fz pd_str pz_nil))))))) (blkOk_by (own := [("_law_name", 10)]) (N := N_wmap) (sc := defScope s_wmap) (by decide +kernel)) (fun _ _ _ _ _ => (gd_name 10 sc_wmap.nd (.inl (by decide)))) (fun _ _ _ _ _ => (pts_d1 (pdt_cmp od_gt (pd_callID 0 (D_take) hg (hr.mono (by decide)) rfl (pv 0) (pf_cons pd_int pf_nil)) pd_int))) (fun _ _ _ _ _ => (pd_var 10)))
    (pds_cons (pd_set 5 sc_wmap.nd (.inl (by decide)) (pd_callTy (cd_dict rfl (huK hr)) rfl T.n_dict (by decide +kernel) (pda_cons (pd_lc (own := [("_law_name", 10)]) (ws := [10]) rfl sc_wmap.nd (.inl (by decide)) (by decide) (pi_any (pd_step (pd_var 4) (pd_callID 0 (D_wpick) hg (hr.mono (by decide)) rfl (pv 0) (pf_cons (pd_lst (pz_fz pd_int (pz_fz (pd_un ud_neg pd_int) pz_nil))) pf_nil)))) (blkOk_by (own := [("_law_name", 10)]) (N := N_wmap) (sc := defScope s_wmap) (by decide +kernel)) (fun _ _ _ _ _ => (gd_name 10 sc_wmap.nd (.inl (by decide)))) (fun _ _ _ _ _ => pts_d0) (fun _ _ _ _ _ => (pd_tup (pz_fz (pd_var 10) (pz_fz (pd_callID 0 (D_weffect) hg (hr.mono (by decide)) rfl (pv 0) (pf_cons (pd_var 2) pf_nil)) pz_nil))))) pda_nil)))
    (pds_cons (pd_set 6 sc_wmap.nd (.inl (by decide)) (pd_callID 0 (D_wpick) hg (hr.mono (by decide)) rfl (pv 0) (pf_cons (pd_lst (pz_fz pd_str (pz_fz pd_str (pz_fz pd_str (pz_fz pd_str pz_nil))))) pf_nil)))
    (pds_cons (pd_setLc 7 (own := [("_law_turn", 8)]) (ws := [8]) rfl sc_wmap.nd (.inl (by decide)) (.inl (by decide)) (by decide) rfl rfl (sw_true rfl rfl rfl (by decide +kernel)) (pi_rng1 rfl T.n_range (pf_cons (pd_bin od_add pd_int (pd_callID 0 (D_take) hg (hr.mono (by decide)) rfl (pv 0) (pf_cons pd_int pf_nil))) pf_nil)) (blkOk_by (own := [("_law_turn", 8)]) (N := N_wmap) (sc := defScope s_wmap) (by decide +kernel)) (fun _ _ _ _ _ => (gd_name 8 sc_wmap.nd (.inl (by decide)))) (fun _ _ _ _ _ => pts_d0) (fun _ _ _ _ _ => (pd_lst pz_nil)))
    (pds_cons (pd_for PassesOwn.never rfl (pi_rng1 rfl T.n_range (pf_cons (pd_callID 0 (D_take) hg (hr.mono (by decide)) rfl (pv 0) (pf_cons (pd_bin od_add (pd_var 1) pd_int) pf_nil)) pf_nil)) (gd_name 8 sc_wmap.nd (.inl (by decide))) (pds_one (pd_pickAppD 0 7 D_pickA hg (hr.mono (by decide)) rfl (by decide) (pv 0) (pv 7) (pd_callID 0 (D_wbinding) hg hr rfl (pv 0) (pf_cons (pd_var 2) (pf_cons (pd_var 4) (pf_cons (pd_var 6) pf_nil)))))))
    (pds_cons (pd_set 9 sc_wmap.nd (.inl (by decide)) (pd_callID 0 (D_wpick) hg (hr.mono (by decide)) rfl (pv 0) (pf_cons (pd_lst (pz_fz pd_int (pz_fz pd_int (pz_fz pd_int (pz_fz (pd_bin od_add pd_int (pd_callID 0 (D_take) hg (hr.mono (by decide)) rfl (pv 0) (pf_cons pd_int pf_nil))) pz_nil))))) pf_nil)))
    (pds_one (pd_ret (pd_tup (pz_fz (pd_var 2) (pz_fz (pd_var 3) (pz_fz (pd_var 5) (pz_fz (pd_callTy cd_tuple rfl T.n_tuple (by decide +kernel) (pda_cons (pd_lc (own := [("_law_layer", 12)]) (ws := [12]) rfl sc_wmap.nd (.inl (by decide)) (by decide) (pi_any (pd_var 7)) (blkOk_by (own := [("_law_layer", 12)]) (N := N_wmap) (sc := defScope s_wmap) (by decide +kernel)) (fun _ _ _ _ _ => (gd_name 12 sc_wmap.nd (.inl (by decide)))) (fun _ _ _ _ _ => pts_d0) (fun _ _ _ _ _ => (pd_callTy cd_tuple rfl T.n_tuple (by decide +kernel) (pda_cons (pd_var 12) pda_nil)))) pda_nil)) (pz_fz (pd_var 9) pz_nil))))))))))))))))
theorem fn_wstate (T : Txt K mg) : DefOk P w K mg base 3 "_law_w_state" P_wstate (spI w K 2 F_wstate) := by
  have D_take := fn_take (P := P) (w := w) (base := base) T
  exact ioDef T.d_wstate sc_wstate rfl (fun _ _ _ _ _ _ us hl => match us, hl with | [_, _], _ => rfl) fun v0 cdv A outer s H E hg hr =>
    (pds_one (pd_ret (pd_callTy cd_tuple rfl T.n_tuple (by decide +kernel) (pda_cons (pd_lc (own := [("_law_flag", 2)]) (ws := [2]) rfl sc_wstate.nd (.inl (by decide)) (by decide) (pi_any (pd_ix (huK hr) (pd_var 1) pd_int)) (blkOk_by (own := [("_law_flag", 2)]) (N := N_wstate) (sc := defScope s_wstate) (by decide +kernel)) (fun _ _ _ _ _ => (gd_name 2 sc_wstate.nd (.inl (by decide)))) (fun _ _ _ _ _ => pts_d0) (fun _ _ _ _ _ => (pd_cmp (od_eq (huK hr)) (pd_callID 0 (D_take) hg hr rfl (pv 0) (pf_cons pd_int pf_nil)) pd_int))) pda_nil))))
theorem fn_wletters (T : Txt K mg) : DefOk P w K mg base 3 "_law_w_letters" P_wletters (spI w K 2 F_wletters) := by
  have D_take := fn_take (P := P) (w := w) (base := base) T
  exact ioDef T.d_wletters sc_wletters rfl (fun _ _ _ _ _ _ us hl => match us, hl with | [_, _], _ => rfl) fun v0 cdv A outer s H E hg hr =>
    (pds_cons (pd_set 2 sc_wletters.nd (.inl (by decide)) (pd_lst (pz_fz (pd_ix (huK hr) pd_str (pd_callID 0 (D_take) hg hr rfl (pv 0) (pf_cons pd_int pf_nil))) pz_nil)))
    (pds_cons (pd_for PassesOwn.never rfl (pi_any (pd_ix (huK hr) (pd_var 1) pd_int)) (gd_name 3 sc_wletters.nd (.inl (by decide))) (pds_one (pd_for PassesOwn.never rfl (pi_any (pd_var 3)) (gd_tup rfl (gds_cons (gd_name 4 sc_wletters.nd (.inl (by decide))) (gds_cons (gd_name 5 sc_wletters.nd (.inl (by decide))) (gds_cons (gd_name 6 sc_wletters.nd (.inl (by decide))) gds_nil)))) (pds_one (pd_set 2 sc_wletters.nd (.inl (by decide)) (pd_bin od_add (pd_var 2) (pd_callTy (cd_listS rfl) rfl T.n_list (by decide +kernel) (pda_cons (pd_var 4) pda_nil))))))))
    (pds_one (pd_ret (pd_callB (cd_sorted (huK hr)) rfl T.n_sorted (by decide +kernel) (pda_cons (pd_var 2) pda_nil))))))
theorem fn_wrow (T : Txt K mg) : DefOk P w K mg base 4 "_law_w_row" P_wrow (spI w K 3 F_wrow) := by
  have D_take := fn_take (P := P) (w := w) (base := base) T
  have D_wletters := fn_wletters (P := P) (w := w) (base := base) T
  have D_wpick := fn_wpick (P := P) (w := w) (base := base) T
  exact ioDef T.d_wrow sc_wrow rfl (fun _ _ _ _ _ _ us hl => match us, hl with | [_, _, _], _ => rfl) fun v0 cdv A outer s H E hg hr =>
    (pds_cons (pd_par 3 4 rfl sc_wrow.nd (.inl (by decide)) (.inl (by decide)) (pz_take (pd_callID 0 (D_wletters) hg hr rfl (pv 0) (pf_cons (pd_var 1) pf_nil)) (pz_take (pd_ix (huK hr) (pd_var 1) pd_int) pz_nil)))
    (pds_cons (pd_set 5 sc_wrow.nd (.inl (by decide)) (pd_lst pz_nil))
    (pds_cons (pd_set 6 sc_wrow.nd (.inl (by decide)) (pd_callID 0 (D_wpick) hg hr rfl (pv 0) (pf_cons (pd_lst (pz_fz pd_int (pz_fz pd_int (pz_fz pd_int pz_nil)))) pf_nil)))
    (pds_cons (pd_for PassesOwn.never rfl (pi_rng1 rfl T.n_range (pf_cons (pd_callID 0 (D_take) hg (hr.mono (by decide)) rfl (pv 0) (pf_cons (pd_bin od_add (pd_var 2) pd_int) pf_nil)) pf_nil)) (gd_name 7 sc_wrow.nd (.inl (by decide))) (pds_cons (pd_if (pdt_bool (pdw_and (pdt_cmp od_gt (pd_callB cd_len rfl T.n_len (by decide +kernel) (pda_cons (pd_ix (huK hr) (pd_var 1) pd_int) pda_nil)) pd_int) (pdw_and1 (pdt_cmp (od_eq (huK hr)) (pd_callID 0 (D_take) hg (hr.mono (by decide)) rfl (pv 0) (pf_cons pd_int pf_nil)) pd_int)))) (pds_one (pd_expr (pd_mut 5 (T := .list) (.inr (.inl rfl)) PySem.F.plainAttrs_list PySem.F.slot_list_append PySem.F.type_list_append mu_append (pv 5) (pz_take (pd_tup (pz_fz pd_str (pz_fz (pd_callID 0 (D_wpick) hg hr rfl (pv 0) (pf_cons (pd_ix (huK hr) (pd_var 1) pd_int) pf_nil)) (pz_fz (pd_cmp (od_eq (huK hr)) (pd_callID 0 (D_take) hg (hr.mono (by decide)) rfl (pv 0) (pf_cons pd_int pf_nil)) pd_int) (pz_fz (pd_var 6) pz_nil))))) pz_nil)))) (pds_one (pd_expr (pd_mut 5 (T := .list) (.inr (.inl rfl)) PySem.F.plainAttrs_list PySem.F.slot_list_append PySem.F.type_list_append mu_append (pv 5) (pz_take (pd_tup (pz_fz pd_str (pz_fz (pd_callID 0 (D_wpick) hg hr rfl (pv 0) (pf_cons (pd_var 3) pf_nil)) (pz_fz (pd_var 6) pz_nil)))) pz_nil)))))
    (pds_one (pd_set 6 sc_wrow.nd (.inl (by decide)) (pd_bin od_add (pd_var 6) (pd_callID 0 (D_wpick) hg hr rfl (pv 0) (pf_cons (pd_lst (pz_fz pd_int (pz_fz pd_int (pz_fz pd_int (pz_fz pd_int (pz_fz (pd_bin od_sub (pd_var 4) pd_int) (pz_fz (pd_var 4) (pz_fz (pd_bin od_add (pd_var 4) pd_int) (pz_fz (pd_bin od_mul pd_int (pd_var 4)) pz_nil))))))))) pf_nil)))))))
    (pds_one (pd_ret (pd_var 5)))))))
theorem fn_wis_entry (T : Txt K mg) : DefOk P w K mg base 1 "_law_w_is_entry" P_wis_entry (spP w K 2 F_wis_entry) := by
  exact pureDef T.d_wis_entry sc_wis_entry rfl (fun _ _ _ _ _ _ us hl => match us, hl with | [_, _], _ => rfl) fun cdv A outer s H E hg hr =>
    (pds_cons (pd_if (pdt_bool (pdw_or (pdt_not (pd_tru (pd_isi .tuple (pd_var 1) rfl T.n_isinstance rfl T.n_tuple))) (pdw_or1 (pdt_cmp (od_nin (huK hr)) (pd_callB cd_len rfl T.n_len (by decide +kernel) (pda_cons (pd_var 1) pda_nil)) (pd_tup (pz_fz pd_int (pz_fz pd_int pz_nil))))))) (pds_one (pd_ret pd_bl)) pds_nil)
    (pds_cons (pd_set 2 sc_wis_entry.nd (.inr rfl) (pd_ix (huK hr) (pd_var 1) (pd_un ud_neg pd_int)))
    (pds_cons (pd_if (pdt_bool (pdw_or (pdt_not (pd_tru (pd_isi .int (pd_var 2) rfl T.n_isinstance rfl T.n_int))) (pdw_or (pd_tru (pd_isi .bool (pd_var 2) rfl T.n_isinstance rfl T.n_bool)) (pdw_or1 (pdt_not (pdt_chain od_le od_le pd_int (pd_var 2) (pd_bin od_pow pd_int pd_int))))))) (pds_one (pd_ret pd_bl)) pds_nil)
    (pds_cons (pd_if (pdt_cmp (od_eq (huK hr)) (pd_callB cd_len rfl T.n_len (by decide +kernel) (pda_cons (pd_var 1) pda_nil)) pd_int) (pds_cons (pd_set 3 sc_wis_entry.nd (.inr rfl) (pd_and (pd_isi .str (pd_ix (huK hr) (pd_var 1) pd_int) rfl T.n_isinstance rfl T.n_str) (pd_and (pd_cmp (od_eq (huK hr)) (pd_callB cd_len rfl T.n_len (by decide +kernel) (pda_cons (pd_ix (huK hr) (pd_var 1) pd_int) pda_nil)) pd_int) (pd_one (pd_chain od_le od_le pd_str (pd_ix (huK hr) (pd_var 1) pd_int) pd_str)))))
    (pds_one (pd_ret (pd_and (pd_cmp (od_eq (huK hr)) (pd_ix (huK hr) (pd_var 1) pd_int) pd_str) (pd_one (pd_var 3)))))) pds_nil)
    (pds_one (pd_ret (pd_and (pd_cmp (od_eq (huK hr)) (pd_ix (huK hr) (pd_var 1) pd_int) pd_str) (pd_and (pd_cmp (od_in (huK hr)) (pd_ix (huK hr) (pd_var 1) pd_int) (pd_callTy cd_list rfl T.n_list (by decide +kernel) (pda_cons (pd_ix (huK hr) (pd_var 0) pd_int) pda_nil))) (pd_one (pd_isi .bool (pd_ix (huK hr) (pd_var 1) pd_int) rfl T.n_isinstance rfl T.n_bool))))))))))
theorem fn_wis_row (T : Txt K mg) : DefOk P w K mg base 2 "_law_w_is_row" P_wis_row (spP w K 2 F_wis_row) := by
  have D_wis_entry := fn_wis_entry (P := P) (w := w) (base := base) T
  exact pureDef T.d_wis_row sc_wis_row rfl (fun _ _ _ _ _ _ us hl => match us, hl with | [_, _], _ => rfl) fun cdv A outer s H E hg hr =>
    (pds_cons (pd_if (pdt_bool (pdw_or (pdt_not (pd_tru (pd_isi .list (pd_var 1) rfl T.n_isinstance rfl T.n_list))) (pdw_or1 (pdt_cmp od_gt (pd_callB cd_len rfl T.n_len (by decide +kernel) (pda_cons (pd_var 1) pda_nil)) pd_int)))) (pds_one (pd_ret pd_bl)) pds_nil)
    (pds_cons (pd_if (pdt_cmp (od_in (huK hr)) pd_bl (pd_lc (own := [("_law_entry", 3)]) (ws := [3]) rfl sc_wis_row.nd (.inr rfl) (by decide) (pi_any (pd_var 1)) (blkOk_by (own := [("_law_entry", 3)]) (N := N_wis_row) (sc := defScope s_wis_row) (by decide +kernel)) (fun _ _ _ _ _ => (gd_name 3 sc_wis_row.nd (.inr rfl))) (fun _ _ _ _ _ => pts_d0) (fun _ _ _ _ _ => (pd_callD (D_wis_entry) hg hr rfl (pf_cons (pd_var 0) (pf_cons (pd_var 3) pf_nil)))))) (pds_one (pd_ret pd_bl)) pds_nil)
    (pds_cons (pd_setLc 2 (own := [("_law_entry", 3)]) (ws := [3]) rfl sc_wis_row.nd (.inr rfl) (.inr rfl) (by decide) rfl rfl (sw_true rfl rfl rfl (by decide +kernel)) (pi_any (pd_var 1)) (blkOk_by (own := [("_law_entry", 3)]) (N := N_wis_row) (sc := defScope s_wis_row) (by decide +kernel)) (fun _ _ _ _ _ => (gd_name 3 sc_wis_row.nd (.inr rfl))) (fun _ _ _ _ _ => pts_d0) (fun _ _ _ _ _ => (pd_ix (huK hr) (pd_var 3) (pd_un ud_neg pd_int))))
    (pds_one (pd_ret (pd_cmp (od_eq (huK hr)) (pd_var 2) (pd_callB (cd_sorted (huK hr)) rfl T.n_sorted (by decide +kernel) (pda_cons (pd_var 2) pda_nil))))))))
theorem fn_wwrong (T : Txt K mg) : DefOk P w K mg base 3 "_law_w_wrong" P_wwrong (spI w K 2 F_wwrong) := by
  have D_take := fn_take (P := P) (w := w) (base := base) T
  exact ioDef T.d_wwrong sc_wwrong rfl (fun _ _ _ _ _ _ us hl => match us, hl with | [_, _], _ => rfl) fun v0 cdv A outer s H E hg hr =>
    (pds_cons (pd_set 2 sc_wwrong.nd (.inl (by decide)) (pd_bin od_add pd_str pd_str))
    (pds_cons (pd_set 3 sc_wwrong.nd (.inl (by decide)) (pd_callID 0 (D_take) hg hr rfl (pv 0) (pf_cons (pd_callB cd_len rfl T.n_len (by decide +kernel) (pda_cons (pd_var 1) pda_nil)) pf_nil)))
    (pds_one (pd_ret (pd_bin od_add (pd_bin od_add (pd_slice (pd_var 1) pod_none (pod_some (pd_var 3))) (pd_ix (huK hr) (pd_var 2) (pd_callID 0 (D_take) hg hr rfl (pv 0) (pf_cons (pd_callB cd_len rfl T.n_len (by decide +kernel) (pda_cons (pd_var 2) pda_nil)) pf_nil)))) (pd_slice (pd_var 1) (pod_some (pd_bin od_add (pd_var 3) pd_int)) pod_none))))))
theorem fn_wbad_row (T : Txt K mg) : DefOk P w K mg base 4 "_law_w_bad_row" P_wbad_row (spI w K 3 F_wbad_row) := by
  have D_take := fn_take (P := P) (w := w) (base := base) T
  have D_wpick := fn_wpick (P := P) (w := w) (base := base) T
  have D_wwrong := fn_wwrong (P := P) (w := w) (base := base) T
  exact ioDef T.d_wbad_row sc_wbad_row rfl (fun _ _ _ _ _ _ us hl => match us, hl with | [_, _, _], _ => rfl) fun v0 cdv A outer s H E hg hr =>
    (pds_cons (pd_set 3 sc_wbad_row.nd (.inl (by decide)) (pd_ix (huK hr) (pd_bin od_add (pd_bin od_add (pd_ix (huK hr) (pd_var 1) pd_int) (pd_ix (huK hr) (pd_var 1) pd_int)) (pd_tup (pz_fz pd_str pz_nil))) pd_int))
    (pds_cons (pd_set 4 sc_wbad_row.nd (.inl (by decide)) (pd_callID 0 (D_take) hg (hr.mono (by decide)) rfl (pv 0) (pf_cons (pd_bin od_add (pd_callB cd_len rfl T.n_len (by decide +kernel) (pda_cons (pd_var 2) pda_nil)) pd_int) pf_nil)))
    (pds_cons (pd_set 5 sc_wbad_row.nd (.inl (by decide)) (pd_ifExp (pdt_cmp od_lt (pd_var 4) (pd_callB cd_len rfl T.n_len (by decide +kernel) (pda_cons (pd_var 2) pda_nil))) (pd_ix (huK hr) (pd_ix (huK hr) (pd_var 2) (pd_var 4)) (pd_un ud_neg pd_int)) (pd_ifExp (pdt_cmp (od_ne (huK hr)) (pd_var 2) (pd_lst pz_nil)) (pd_ix (huK hr) (pd_ix (huK hr) (pd_var 2) (pd_un ud_neg pd_int)) (pd_un ud_neg pd_int)) pd_int)))
    (pds_cons (pd_set 6 sc_wbad_row.nd (.inl (by decide)) (pd_lst (pz_fz (pd_tup (pz_fz pd_str (pz_fz pd_str (pz_fz (pd_var 5) pz_nil)))) (pz_fz (pd_tup (pz_fz pd_str (pz_fz pd_str (pz_fz (pd_var 5) pz_nil)))) (pz_fz (pd_tup (pz_fz pd_str (pz_fz pd_str (pz_fz (pd_var 5) pz_nil)))) (pz_fz (pd_tup (pz_fz pd_str (pz_fz pd_str pz_nil))) (pz_fz (pd_tup (pz_fz pd_str (pz_fz pd_str (pz_fz (pd_var 5) (pz_fz (pd_var 5) pz_nil))))) (pz_fz (pd_tup pz_nil) pz_nil))))))))
    (pds_cons (pd_set 6 sc_wbad_row.nd (.inl (by decide)) (pd_bin od_add (pd_bin od_add (pd_var 6) (pd_lc (own := [("_law_word", 10)]) (ws := [10]) rfl sc_wbad_row.nd (.inl (by decide)) (by decide) (pi_any (pd_lst (pz_fz pd_str (pz_fz pd_str (pz_fz pd_non (pz_fz (pd_lst (pz_fz pd_str pz_nil)) pz_nil)))))) (blkOk_by (own := [("_law_word", 10)]) (N := N_wbad_row) (sc := defScope s_wbad_row) (by decide +kernel)) (fun _ _ _ _ _ => (gd_name 10 sc_wbad_row.nd (.inl (by decide)))) (fun _ _ _ _ _ => pts_d0) (fun _ _ _ _ _ => (pd_tup (pz_fz (pd_var 10) (pz_fz (pd_var 3) (pz_fz pd_bl (pz_fz (pd_var 5) pz_nil)))))))) (pd_lst (pz_fz (pd_tup (pz_fz pd_str (pz_fz (pd_var 3) (pz_fz pd_bl (pz_fz (pd_var 5) pz_nil))))) pz_nil))))
    (pds_cons (pd_set 6 sc_wbad_row.nd (.inl (by decide)) (pd_bin od_add (pd_var 6) (pd_bin od_rep (pd_lst (pz_fz (pd_tup (pz_fz pd_str (pz_fz (pd_callID 0 (D_wwrong) hg hr rfl (pv 0) (pf_cons pd_str pf_nil)) (pz_fz (pd_var 5) pz_nil)))) pz_nil)) pd_int)))
    (pds_cons (pd_set 6 sc_wbad_row.nd (.inl (by decide)) (pd_bin od_add (pd_var 6) (pd_lst (pz_fz (pd_lst (pz_fz pd_str (pz_fz pd_str (pz_fz (pd_var 5) pz_nil)))) (pz_fz (pd_tup (pz_fz pd_str (pz_fz pd_str (pz_fz pd_bl (pz_fz (pd_var 5) pz_nil))))) (pz_fz (pd_tup (pz_fz pd_str (pz_fz (pd_var 3) (pz_fz pd_int (pz_fz (pd_var 5) pz_nil))))) (pz_fz (pd_tup (pz_fz pd_str (pz_fz (pd_var 3) (pz_fz pd_non (pz_fz (pd_var 5) pz_nil))))) pz_nil)))))))
    (pds_cons (pd_set 6 sc_wbad_row.nd (.inl (by decide)) (pd_bin od_add (pd_var 6) (pd_lst (pz_fz (pd_tup (pz_fz pd_str (pz_fz (pd_var 3) (pz_fz (pd_var 5) pz_nil)))) (pz_fz (pd_tup (pz_fz pd_str (pz_fz pd_str (pz_fz (pd_var 5) pz_nil)))) (pz_fz (pd_tup (pz_fz pd_str (pz_fz pd_non (pz_fz (pd_var 5) pz_nil)))) (pz_fz (pd_tup (pz_fz pd_str (pz_fz pd_non (pz_fz pd_bl (pz_fz (pd_var 5) pz_nil))))) (pz_fz pd_non (pz_fz pd_str pz_nil)))))))))
    (pds_cons (pd_set 6 sc_wbad_row.nd (.inl (by decide)) (pd_bin od_add (pd_var 6) (pd_lc (own := [("_law_bad", 9)]) (ws := [9]) rfl sc_wbad_row.nd (.inl (by decide)) (by decide) (pi_any (pd_lst (pz_fz (pd_un ud_neg pd_int) (pz_fz (pd_bin od_add (pd_bin od_pow pd_int pd_int) pd_int) (pz_fz pd_bl (pz_fz pd_str (pz_fz pd_non (pz_fz (pd_lst pz_nil) (pz_fz (pd_bin od_sub (pd_var 5) pd_int) (pz_fz (pd_bin od_pow pd_int pd_int) (pz_fz (pd_bin od_add (pd_var 5) pd_int) pz_nil))))))))))) (blkOk_by (own := [("_law_bad", 9)]) (N := N_wbad_row) (sc := defScope s_wbad_row) (by decide +kernel)) (fun _ _ _ _ _ => (gd_name 9 sc_wbad_row.nd (.inl (by decide)))) (fun _ _ _ _ _ => pts_d0) (fun _ _ _ _ _ => (pd_tup (pz_fz pd_str (pz_fz pd_str (pz_fz (pd_var 9) pz_nil))))))))
    (pds_cons (pd_set 7 sc_wbad_row.nd (.inl (by decide)) (pd_lst (pz_fz (pd_un ud_neg pd_int) (pz_fz (pd_bin od_add (pd_bin od_pow pd_int pd_int) pd_int) (pz_fz pd_bl (pz_fz pd_str (pz_fz pd_non (pz_fz (pd_lst pz_nil) (pz_fz (pd_bin od_sub (pd_var 5) pd_int) (pz_fz (pd_bin od_pow pd_int pd_int) (pz_fz (pd_bin od_add (pd_var 5) pd_int) pz_nil)))))))))))
    (pds_cons (pd_set 6 sc_wbad_row.nd (.inl (by decide)) (pd_bin od_add (pd_bin od_add (pd_var 6) (pd_lc (own := [("_law_bad", 9)]) (ws := [9]) rfl sc_wbad_row.nd (.inl (by decide)) (by decide) (pi_any (pd_var 7)) (blkOk_by (own := [("_law_bad", 9)]) (N := N_wbad_row) (sc := defScope s_wbad_row) (by decide +kernel)) (fun _ _ _ _ _ => (gd_name 9 sc_wbad_row.nd (.inl (by decide)))) (fun _ _ _ _ _ => pts_d0) (fun _ _ _ _ _ => (pd_tup (pz_fz pd_str (pz_fz (pd_var 3) (pz_fz pd_bl (pz_fz (pd_var 9) pz_nil)))))))) (pd_lst (pz_fz (pd_tup (pz_fz pd_str (pz_fz (pd_lst (pz_fz pd_str pz_nil)) (pz_fz (pd_var 5) pz_nil)))) pz_nil))))
    (pds_cons (pd_set 6 sc_wbad_row.nd (.inl (by decide)) (pd_bin od_add (pd_var 6) (pd_lst (pz_fz (pd_tup (pz_fz pd_str (pz_fz (pd_lst (pz_fz (pd_var 3) pz_nil)) (pz_fz pd_bl (pz_fz (pd_var 5) pz_nil))))) (pz_fz (pd_tup (pz_fz pd_non (pz_fz pd_str (pz_fz (pd_var 5) pz_nil)))) (pz_fz (pd_tup (pz_fz (pd_lst (pz_fz pd_str pz_nil)) (pz_fz pd_str (pz_fz (pd_var 5) pz_nil)))) (pz_fz (pd_tup (pz_fz pd_str (pz_fz pd_str (pz_fz (pd_tup (pz_fz (pd_var 5) pz_nil)) pz_nil)))) pz_nil)))))))
    (pds_cons (pd_set 8 sc_wbad_row.nd (.inl (by decide)) (pd_bin od_add (pd_bin od_add (pd_slice (pd_var 2) pod_none (pod_some (pd_var 4))) (pd_lst (pz_fz (pd_callID 0 (D_wpick) hg hr rfl (pv 0) (pf_cons (pd_var 6) pf_nil)) pz_nil))) (pd_slice (pd_var 2) (pod_some (pd_bin od_add (pd_var 4) (pd_callID 0 (D_take) hg (hr.mono (by decide)) rfl (pv 0) (pf_cons pd_int pf_nil)))) pod_none)))
    (pds_one (pd_ret (pd_callID 0 (D_wpick) hg hr rfl (pv 0) (pf_cons (pd_bin od_add (pd_bin od_rep (pd_lst (pz_fz (pd_var 8) pz_nil)) pd_int) (pd_lst (pz_fz (pd_callTy cd_tuple rfl T.n_tuple (by decide +kernel) (pda_cons (pd_var 2) pda_nil)) (pz_fz pd_non (pz_fz pd_dct0 (pz_fz pd_str (pz_fz (pd_step (pd_var 2) (pd_un ud_neg pd_int)) (pz_fz (pd_bin od_add (pd_var 2) (pd_var 2)) (pz_fz (pd_tup (pz_fz (pd_var 8) pz_nil)) (pz_fz pd_int pz_nil)))))))))) pf_nil)))))))))))))))))
theorem fn_law (T : Txt K mg) : DefOk P w K mg base 7 "law" P_law (spP w K 1 F_law) := by
  have D_open := fn_open (P := P) (w := w) (base := base) T
  have D_take := fn_take (P := P) (w := w) (base := base) T
  have D_wbad_row := fn_wbad_row (P := P) (w := w) (base := base) T
  have D_wis_row := fn_wis_row (P := P) (w := w) (base := base) T
  have D_wmap := fn_wmap (P := P) (w := w) (base := base) T
  have D_wrow := fn_wrow (P := P) (w := w) (base := base) T
  have D_is_row := fn_is_row (P := P) (w := w) (base := base) T
  exact pureDef T.d_law sc_law rfl (fun _ _ _ _ _ _ us hl => match us, hl with | [_], _ => rfl) fun cdv A outer s H E hg hr =>
    (pds_cons (pd_set 1 sc_law.nd (.inr rfl) (pd_callD (D_open) hg (hr.mono (by decide)) rfl (pf_cons (pd_var 0) pf_nil)))
    (pds_cons (pd_for PassesOwn.never rfl (pi_rng1 rfl T.n_range (pf_cons pd_int pf_nil)) (gd_name 2 sc_law.nd (.inr rfl)) (pds_cons (pd_set 3 sc_law.nd (.inr rfl) (pd_callID 1 (D_wmap) hg hr rfl (pv 1) (pf_cons pd_int pf_nil)))
    (pds_cons (pd_set 4 sc_law.nd (.inr rfl) (pd_callID 1 (D_wrow) hg (hr.mono (by decide)) rfl (pv 1) (pf_cons (pd_var 3) (pf_cons pd_int pf_nil))))
    (pds_cons (pd_set 5 sc_law.nd (.inr rfl) (pd_bin od_add pd_int (pd_callID 1 (D_take) hg (hr.mono (by decide)) rfl (pv 1) (pf_cons pd_int pf_nil))))
    (pds_cons (pd_set 6 sc_law.nd (.inr rfl) (pd_bin od_add (pd_lst (pz_fz (pd_var 4) (pz_fz (pd_bin od_rep (pd_lst (pz_fz (pd_tup (pz_fz pd_str (pz_fz pd_str (pz_fz pd_int pz_nil)))) pz_nil)) (pd_var 5)) pz_nil))) (pd_lc (own := [("_law_again", 10)]) (ws := [10]) rfl sc_law.nd (.inr rfl) (by decide) (pi_rng1 rfl T.n_range (pf_cons pd_int pf_nil)) (blkOk_by (own := [("_law_again", 10)]) (N := N_law) (sc := defScope s_law) (by decide +kernel)) (fun _ _ _ _ _ => (gd_name 10 sc_law.nd (.inr rfl))) (fun _ _ _ _ _ => pts_d0) (fun _ _ _ _ _ => (pd_callID 1 (D_wbad_row) hg (hr.mono (by decide)) rfl (pv 1) (pf_cons (pd_var 3) (pf_cons (pd_var 4) pf_nil)))))))
    (pds_one (pd_for PassesOwn.never rfl (pi_any (pd_var 6)) (gd_name 7 sc_law.nd (.inr rfl)) (pds_cons (pd_set 8 sc_law.nd (.inr rfl) (pd_callB (cd_repr hg T.sysd (huK hr)) rfl T.n_repr (by decide +kernel) (pda_cons (pd_var 7) pda_nil)))
    (pds_cons (pd_set 9 sc_law.nd (.inr rfl) (pd_callD (D_is_row) hg hr rfl (pf_cons (pd_var 3) (pf_cons (pd_var 7) pf_nil))))
    (pds_one (pd_if (pdt_bool (pdw_or (pdt_not (pd_tru (pd_isi .bool (pd_var 9) rfl T.n_isinstance rfl T.n_bool))) (pdw_or (pdt_cmp (od_ne (huK hr)) (pd_var 9) (pd_callD (D_wis_row) hg (hr.mono (by decide)) rfl (pf_cons (pd_var 3) (pf_cons (pd_var 7) pf_nil)))) (pdw_or1 (pdt_cmp (od_ne (huK hr)) (pd_callB (cd_repr hg T.sysd (huK hr)) rfl T.n_repr (by decide +kernel) (pda_cons (pd_var 7) pda_nil)) (pd_var 8)))))) (pds_one (pd_ret pd_bl)) pds_nil)))))))))))
    (pds_one (pd_ret pd_bl))))
end
/-! ### the head -/
def dd_is_integer : He.DefD := ⟨("is_integer", none), "is_integer", "is_integer", defArgs s_is_integer, defBody s_is_integer, defScope s_is_integer, [], []⟩
def dd_are_letters : He.DefD := ⟨("are_letters", none), "are_letters", "are_letters", defArgs s_are_letters, defBody s_are_letters, defScope s_are_letters, [], []⟩
def dd_are_names : He.DefD := ⟨("are_names", none), "are_names", "are_names", defArgs s_are_names, defBody s_are_names, defScope s_are_names, [], []⟩
def dd_is_effect : He.DefD := ⟨("is_effect", none), "is_effect", "is_effect", defArgs s_is_effect, defBody s_is_effect, defScope s_is_effect, [], []⟩
def dd_are_commands : He.DefD := ⟨("are_commands", none), "are_commands", "are_commands", defArgs s_are_commands, defBody s_are_commands, defScope s_are_commands, [], []⟩
def dd_is_binding : He.DefD := ⟨("is_binding", none), "is_binding", "is_binding", defArgs s_is_binding, defBody s_is_binding, defScope s_is_binding, [], []⟩
def dd_are_layers : He.DefD := ⟨("are_layers", none), "are_layers", "are_layers", defArgs s_are_layers, defBody s_are_layers, defScope s_are_layers, [], []⟩
def dd_is_map : He.DefD := ⟨("is_map", none), "is_map", "is_map", defArgs s_is_map, defBody s_is_map, defScope s_is_map, [], []⟩
def dd_need_map : He.DefD := ⟨("need_map", none), "need_map", "need_map", defArgs s_need_map, defBody s_need_map, defScope s_need_map, [], []⟩
def dd_is_time : He.DefD := ⟨("is_time", none), "is_time", "is_time", defArgs s_is_time, defBody s_is_time, defScope s_is_time, [], []⟩
def dd_is_entry : He.DefD := ⟨("is_entry", none), "is_entry", "is_entry", defArgs s_is_entry, defBody s_is_entry, defScope s_is_entry, [], []⟩
def dd_is_row : He.DefD := ⟨("is_row", none), "is_row", "is_row", defArgs s_is_row, defBody s_is_row, defScope s_is_row, [], []⟩
def dd_spread : He.DefD := ⟨("_law_spread", none), "_law_spread", "_law_spread", defArgs s_spread, defBody s_spread, defScope s_spread, [], []⟩
def dd_open : He.DefD := ⟨("_law_open", none), "_law_open", "_law_open", defArgs s_open, defBody s_open, defScope s_open, [], []⟩
def dd_take : He.DefD := ⟨("_law_take", none), "_law_take", "_law_take", defArgs s_take, defBody s_take, defScope s_take, [], []⟩
def dd_wpick : He.DefD := ⟨("_law_w_pick", none), "_law_w_pick", "_law_w_pick", defArgs s_wpick, defBody s_wpick, defScope s_wpick, [], []⟩
def dd_weffect : He.DefD := ⟨("_law_w_effect", none), "_law_w_effect", "_law_w_effect", defArgs s_weffect, defBody s_weffect, defScope s_weffect, [], []⟩
def dd_wkeys : He.DefD := ⟨("_law_w_keys", none), "_law_w_keys", "_law_w_keys", defArgs s_wkeys, defBody s_wkeys, defScope s_wkeys, [], []⟩
def dd_wbinding : He.DefD := ⟨("_law_w_binding", none), "_law_w_binding", "_law_w_binding", defArgs s_wbinding, defBody s_wbinding, defScope s_wbinding, [], []⟩
def dd_wmap : He.DefD := ⟨("_law_w_map", none), "_law_w_map", "_law_w_map", defArgs s_wmap, defBody s_wmap, defScope s_wmap, [], []⟩
def dd_wstate : He.DefD := ⟨("_law_w_state", none), "_law_w_state", "_law_w_state", defArgs s_wstate, defBody s_wstate, defScope s_wstate, [], []⟩
def dd_wletters : He.DefD := ⟨("_law_w_letters", none), "_law_w_letters", "_law_w_letters", defArgs s_wletters, defBody s_wletters, defScope s_wletters, [], []⟩
def dd_wrow : He.DefD := ⟨("_law_w_row", none), "_law_w_row", "_law_w_row", defArgs s_wrow, defBody s_wrow, defScope s_wrow, [], []⟩
def dd_wis_entry : He.DefD := ⟨("_law_w_is_entry", none), "_law_w_is_entry", "_law_w_is_entry", defArgs s_wis_entry, defBody s_wis_entry, defScope s_wis_entry, [], []⟩
def dd_wis_row : He.DefD := ⟨("_law_w_is_row", none), "_law_w_is_row", "_law_w_is_row", defArgs s_wis_row, defBody s_wis_row, defScope s_wis_row, [], []⟩
def dd_wwrong : He.DefD := ⟨("_law_w_wrong", none), "_law_w_wrong", "_law_w_wrong", defArgs s_wwrong, defBody s_wwrong, defScope s_wwrong, [], []⟩
def dd_wbad_row : He.DefD := ⟨("_law_w_bad_row", none), "_law_w_bad_row", "_law_w_bad_row", defArgs s_wbad_row, defBody s_wbad_row, defScope s_wbad_row, [], []⟩
def dd_law : He.DefD := ⟨("law", none), "law", "law", defArgs s_law, defBody s_law, defScope s_law, [], []⟩
def defs : List He.DefD := [dd_is_integer, dd_are_letters, dd_are_names, dd_is_effect, dd_are_commands, dd_is_binding, dd_are_layers, dd_is_map, dd_need_map, dd_is_time, dd_is_entry, dd_is_row, dd_spread, dd_open, dd_take, dd_wpick, dd_weffect, dd_wkeys, dd_wbinding, dd_wmap, dd_wstate, dd_wletters, dd_wrow, dd_wis_entry, dd_wis_row, dd_wwrong, dd_wbad_row, dd_law]
def facts : List He.Fa := [.glo "is_integer", .glo "are_letters", .glo "are_names", .glo "is_effect", .glo "are_commands", .glo "is_binding", .glo "are_layers", .glo "is_map", .glo "need_map", .glo "is_time", .glo "is_entry", .glo "is_row", .glo "_law_spread", .glo "_law_open", .glo "_law_take", .glo "_law_w_pick", .glo "_law_w_effect", .glo "_law_w_keys", .glo "_law_w_binding", .glo "_law_w_map", .glo "_law_w_state", .glo "_law_w_letters", .glo "_law_w_row", .glo "_law_w_is_entry", .glo "_law_w_is_row", .glo "_law_w_wrong", .glo "_law_w_bad_row", .glo "law", .free "all", .free "bool", .free "dict", .free "enumerate", .free "int", .free "isinstance", .free "len", .free "list", .free "range", .free "repr", .free "sorted", .free "str", .free "sum", .free "tuple", .free "zip", .str "LETTERS" "abcdefghijklmnopqrstuvwxyz", .int "MOST_ENTRIES" 300, .int "MOST_KEYS" 4, .int "MOST_TIME" 1000000000]
theorem txt {h : Heap} {K : PySem.W.Frag} {mg : Str → Option Value} (KI : K.In h) (G : h.Ns mainGlobals mg) (c : He.SaysD facts defs K) (S : SysD K) : Txt K mg where
  sysd := S
  n_all := He.free_ok KI G (c.fact 28 (f := .free "all") rfl)
  n_bool := He.free_ok KI G (c.fact 29 (f := .free "bool") rfl)
  n_dict := He.free_ok KI G (c.fact 30 (f := .free "dict") rfl)
  n_enumerate := He.free_ok KI G (c.fact 31 (f := .free "enumerate") rfl)
  n_int := He.free_ok KI G (c.fact 32 (f := .free "int") rfl)
  n_isinstance := He.free_ok KI G (c.fact 33 (f := .free "isinstance") rfl)
  n_len := He.free_ok KI G (c.fact 34 (f := .free "len") rfl)
  n_list := He.free_ok KI G (c.fact 35 (f := .free "list") rfl)
  n_range := He.free_ok KI G (c.fact 36 (f := .free "range") rfl)
  n_repr := He.free_ok KI G (c.fact 37 (f := .free "repr") rfl)
  n_sorted := He.free_ok KI G (c.fact 38 (f := .free "sorted") rfl)
  n_str := He.free_ok KI G (c.fact 39 (f := .free "str") rfl)
  n_sum := He.free_ok KI G (c.fact 40 (f := .free "sum") rfl)
  n_tuple := He.free_ok KI G (c.fact 41 (f := .free "tuple") rfl)
  n_zip := He.free_ok KI G (c.fact 42 (f := .free "zip") rfl)
  c_LETTERS := He.str_ok KI G (c.fact 43 (f := .str "LETTERS" "abcdefghijklmnopqrstuvwxyz") rfl)
  c_MOST_ENTRIES := He.int_ok KI G (c.fact 44 (f := .int "MOST_ENTRIES" 300) rfl)
  c_MOST_KEYS := He.int_ok KI G (c.fact 45 (f := .int "MOST_KEYS" 4) rfl)
  c_MOST_TIME := He.int_ok KI G (c.fact 46 (f := .int "MOST_TIME" 1000000000) rfl)
  d_is_integer := ⟨He.glo_ok KI G (c.fact 0 (f := .glo "is_integer") rfl), c.def_ 0 (d := dd_is_integer) rfl⟩
  d_are_letters := ⟨He.glo_ok KI G (c.fact 1 (f := .glo "are_letters") rfl), c.def_ 1 (d := dd_are_letters) rfl⟩
  d_are_names := ⟨He.glo_ok KI G (c.fact 2 (f := .glo "are_names") rfl), c.def_ 2 (d := dd_are_names) rfl⟩
  d_is_effect := ⟨He.glo_ok KI G (c.fact 3 (f := .glo "is_effect") rfl), c.def_ 3 (d := dd_is_effect) rfl⟩
  d_are_commands := ⟨He.glo_ok KI G (c.fact 4 (f := .glo "are_commands") rfl), c.def_ 4 (d := dd_are_commands) rfl⟩
  d_is_binding := ⟨He.glo_ok KI G (c.fact 5 (f := .glo "is_binding") rfl), c.def_ 5 (d := dd_is_binding) rfl⟩
  d_are_layers := ⟨He.glo_ok KI G (c.fact 6 (f := .glo "are_layers") rfl), c.def_ 6 (d := dd_are_layers) rfl⟩
  d_is_map := ⟨He.glo_ok KI G (c.fact 7 (f := .glo "is_map") rfl), c.def_ 7 (d := dd_is_map) rfl⟩
  d_need_map := ⟨He.glo_ok KI G (c.fact 8 (f := .glo "need_map") rfl), c.def_ 8 (d := dd_need_map) rfl⟩
  d_is_time := ⟨He.glo_ok KI G (c.fact 9 (f := .glo "is_time") rfl), c.def_ 9 (d := dd_is_time) rfl⟩
  d_is_entry := ⟨He.glo_ok KI G (c.fact 10 (f := .glo "is_entry") rfl), c.def_ 10 (d := dd_is_entry) rfl⟩
  d_is_row := ⟨He.glo_ok KI G (c.fact 11 (f := .glo "is_row") rfl), c.def_ 11 (d := dd_is_row) rfl⟩
  d_spread := ⟨He.glo_ok KI G (c.fact 12 (f := .glo "_law_spread") rfl), c.def_ 12 (d := dd_spread) rfl⟩
  d_open := ⟨He.glo_ok KI G (c.fact 13 (f := .glo "_law_open") rfl), c.def_ 13 (d := dd_open) rfl⟩
  d_take := ⟨He.glo_ok KI G (c.fact 14 (f := .glo "_law_take") rfl), c.def_ 14 (d := dd_take) rfl⟩
  d_wpick := ⟨He.glo_ok KI G (c.fact 15 (f := .glo "_law_w_pick") rfl), c.def_ 15 (d := dd_wpick) rfl⟩
  d_weffect := ⟨He.glo_ok KI G (c.fact 16 (f := .glo "_law_w_effect") rfl), c.def_ 16 (d := dd_weffect) rfl⟩
  d_wkeys := ⟨He.glo_ok KI G (c.fact 17 (f := .glo "_law_w_keys") rfl), c.def_ 17 (d := dd_wkeys) rfl⟩
  d_wbinding := ⟨He.glo_ok KI G (c.fact 18 (f := .glo "_law_w_binding") rfl), c.def_ 18 (d := dd_wbinding) rfl⟩
  d_wmap := ⟨He.glo_ok KI G (c.fact 19 (f := .glo "_law_w_map") rfl), c.def_ 19 (d := dd_wmap) rfl⟩
  d_wstate := ⟨He.glo_ok KI G (c.fact 20 (f := .glo "_law_w_state") rfl), c.def_ 20 (d := dd_wstate) rfl⟩
  d_wletters := ⟨He.glo_ok KI G (c.fact 21 (f := .glo "_law_w_letters") rfl), c.def_ 21 (d := dd_wletters) rfl⟩
  d_wrow := ⟨He.glo_ok KI G (c.fact 22 (f := .glo "_law_w_row") rfl), c.def_ 22 (d := dd_wrow) rfl⟩
  d_wis_entry := ⟨He.glo_ok KI G (c.fact 23 (f := .glo "_law_w_is_entry") rfl), c.def_ 23 (d := dd_wis_entry) rfl⟩
  d_wis_row := ⟨He.glo_ok KI G (c.fact 24 (f := .glo "_law_w_is_row") rfl), c.def_ 24 (d := dd_wis_row) rfl⟩
  d_wwrong := ⟨He.glo_ok KI G (c.fact 25 (f := .glo "_law_w_wrong") rfl), c.def_ 25 (d := dd_wwrong) rfl⟩
  d_wbad_row := ⟨He.glo_ok KI G (c.fact 26 (f := .glo "_law_w_bad_row") rfl), c.def_ 26 (d := dd_wbad_row) rfl⟩
  d_law := ⟨He.glo_ok KI G (c.fact 27 (f := .glo "law") rfl), c.def_ 27 (d := dd_law) rfl⟩
abbrev R : PySem.W.OpenRow := PySem.W.OpenLaw.row PySem.Challenge.rw_keywait_k06_rows_known
abbrev hk : PySem.W.Hook := hookS 4 facts defs
def ob (s : PySem.W.SharedT) : Bool × He.AlD := obsS 4 facts defs (HandSHeadRun.getT s)
theorem ob_eq (s : PySem.W.SharedT) : ob s = hk.obs s.abs := obsS_eq (HandSHeadRun.getT_eq s)
abbrev lawAt : Nat := 37
abbrev loose0 : List Str := ["KeywaitError", "NoMap", "LETTERS", "MOST_KEYS", "is_integer", "are_letters", "are_names", "is_effect", "are_commands", "is_binding", "are_layers", "is_map", "need_map", "MOST_ENTRIES", "MOST_TIME", "is_time", "is_entry", "is_row", "_law_spread", "_law_open", "_law_take", "_law_w_pick", "_law_w_effect", "_law_w_keys", "_law_w_binding", "_law_w_map", "_law_w_state", "_law_w_letters", "_law_w_row", "_law_w_is_entry"]
abbrev loose1 : List Str := ["_law_w_is_row", "_law_w_wrong", "_law_w_bad_row"]
abbrev loose : List Str := loose0 ++ loose1
abbrev idn : PySem.W.OpenLaw := PySem.Challenge.rw_keywait_k06_rows_known
abbrev lawLevel : Nat := 7
end Gk06
set_option maxHeartbeats 400000
/-! k06: the law's own reading answers True. -/
namespace Gk06
open PySem PySem.Spec L2 KW
open PyProof.Rows hiding St

theorem kok {k : KM} (hk : k.Ok) : KOk k.toD (kv k) k.outside := ⟨rfl, hk.nice, hk.isMap, rfl, fun s hs => (name_ok (hk.flN s (hk.outS.subset hs))).1⟩
theorem ent3 : Sh 1 16 (.tup [.str "key", .str "a", .int 3]) := ⟨by decide +kernel, by decide +kernel, by decide +kernel, by decide +kernel⟩
theorem tv_long (n : Nat) (h : n ≤ 400) : Tv (.lst false (List.replicate n [D.tup [.str "key", .str "a", .int 3]]).flatten) := by
  have hx : ∀ x ∈ (List.replicate n [D.tup [.str "key", .str "a", .int 3]]).flatten, x = D.tup [.str "key", .str "a", .int 3] := fun x hx => by
    obtain ⟨y, hy, hxy⟩ := List.mem_flatten.mp hx
    rw [(List.mem_replicate.mp hy).2] at hxy
    exact List.mem_singleton.mp hxy
  have hl : (List.replicate n [D.tup [.str "key", .str "a", .int 3]]).flatten.length ≤ 400 := by
    rw [PyProof.Rows.lm_len_rep_flat]
    show n * 1 ≤ 400
    omega
  have g : A1 (D.tup [.str "key", .str "a", .int 3]) := A1.tup (fa_cons c_str (fa_cons c_str (fa_cons (A0.i (by decide) (by decide)) fa_nil))) (by simp)
  refine ⟨⟨nice_lst_of (Nat.le_trans hl (by decide)) fun x h => by rw [hx x h]; exact g.nc, fun o es e x h => ?_⟩, (Sh.lst (fun x h => by rw [hx x h]; exact ent3) hl).mono (by decide) (by decide)⟩
  cases e
  rw [hx x h]
  exact g.flat (by decide)
theorem ne_bl (a b : Bool) : neD (.bl a) (.bl b) = some (.bl (!(a == b))) := by
  cases a <;> cases b <;> rfl
theorem ne_str {s : Str} (h : okS s) : neD (.str s) (.str s) = some (.bl false) := by
  unfold neD
  rw [KW.flat_str h]
  show some (D.bl (!(s == s))) = _
  simp
abbrev env (ns : List Int) (pen : D) (a b c d e f g h i : Option D) : KW.Env := [some (.lst false (ns.map .int)), some pen, a, b, c, d, e, f, g, h, i]
theorem et_cast {t : TDT} {ρ : KW.Env} {c c' : Bool} (h : Et t ρ c) (e : c = c') : Et t ρ c' := e ▸ h
theorem set_cu {i n : Nat} {F : List D → (D → Prop) → Prop} {t : TDZ} {ds : List D} {Dd : EndsD} {ρ : KW.Env} (h : Ez t ρ ds) (hl : ds.length = n) (q : F ds fun d => Dd.nx (ρ.set i (some d))) : dSet i (dCallU n F t) Dd ρ := by
  dsimp only [dSet]
  refine ev_callU h hl ?_
  have e2 : (fun d => Dd.nx (ρ.set i (some d))) = fun d => ∃ d_1 ρ2, takeO (.val d) ρ = some (d_1, ρ2) ∧ Dd.nx (ρ2.set i (some d_1)) := by
    funext d
    apply propext
    constructor
    · exact fun q => ⟨d, _, rfl, q⟩
    · intro ⟨x, ρ2, e3, q⟩
      have e3 : some (d, ρ) = some (x, ρ2) := e3
      cases e3
      exact q
  rw [← e2]
  exact q
theorem addL {o o' : Bool} {a b : List D} (h : a.length + b.length ≤ sizeLine ∧ D.isFzs a = true ∧ D.isFzs b = true) : addD (.lst o a) (.lst o' b) = some (.lst true (a ++ b)) := if_pos h
/-- the things: the row, a long row, four bad rows -/
theorem things_ok {n : Nat} {ns : List Int} {pen : D} {km : KM} {es : List Ent} {many : Int} {a w f g h i : Option D} {Dd : EndsD} (hp : PenOk n pen) (hn : n + 4000 ≤ 2 ^ 30) (hk : km.Ok) (ro : RowOk km es) (hl : es.length ≤ 8) (m0 : 0 ≤ many) (m1 : many ≤ 400)
    (k : ∀ l d' i', (∀ x ∈ l, Tv x ∧ x.fz = x) → l.length ≤ 6 → PenOk (n + 24) d' → Dd.nx (env ns d' a (some km.toD) (some (.lst false (eDs es))) (some (.int many)) (some (.lst true l)) f g h i')) :
    dSet 6 (dBin addD (dLstE (zFz (dVar 4) (zFz (dBin repD (dLstE (zFz (dTupE (zFz (dC (.str "key")) (zFz (dC (.str "a")) (zFz (dC (.int 3)) zNil)))) zNil)) (dVar 5)) zNil))) (dComp (dRng1 (zFz (dC (.int 4)) zNil)) (gN 10) dYes (dCallI 1 3 F_wbad_row (zFz (dVar 3) (zFz (dVar 4) zNil))) [10])) Dd (env ns pen a (some km.toD) (some (.lst true (eDs es))) (some (.int many)) w f g h i) := by
  have ez := isFzs_eDs es
  have e1 : km.toD.fz = km.toD := KM.fz km
  have er : (D.lst false (eDs es)).fz = .lst false (eDs es) := by rw [D.fz, D.fzs_of _ ez]
  obtain ⟨lg, elg⟩ : ∃ lg : List D, lg = (List.replicate many.toNat [D.tup [.str "key", .str "a", .int 3]]).flatten := ⟨_, rfl⟩
  have tlg : Tv (.lst false lg) := by rw [elg]; exact tv_long _ (by omega)
  have flg : (D.lst false lg).fz = .lst false lg := fz_of_nice tlg.ask.1
  have t0 : Tv (.lst false (eDs es)) := Tv.lst (flat_eDs hk ro (by omega)) (by rw [List.length_map]; omega)
  refine ⟨_, rfl, .lst false (eDs es), env ns pen a (some km.toD) (some (.lst false (eDs es))) (some (.int many)) w f g h i, ?_, ?_⟩
  · show some ((D.lst true (eDs es)).fz, [_, _, _, _, some (D.lst true (eDs es)).fz, _, _, _, _, _, _]) = _
    rw [D.fz, D.fzs_of _ ez]
  have hE : EvV (dBin repD (dLstE (zFz (dTupE (zFz (dC (.str "key")) (zFz (dC (.str "a")) (zFz (dC (.int 3)) zNil)))) zNil)) (dVar 5)) (env ns pen a (some km.toD) (some (.lst false (eDs es))) (some (.int many)) w f g h i) (.lst true lg) := by
    rw [elg]
    exact evv_bin (f := repD) (ev_lst (ez_fzT (ev_tup (ez_fz ev_c (ez_fz ev_c (ez_fz ev_c ez_nil))) (by show 3 ≤ sizeLine; decide)) ez_nil) (by show 1 ≤ sizeLine; decide)).ev (ev_var (i := 5) rfl) (if_pos ⟨rfl, by omega, by omega, by show 1 * many.toNat ≤ sizeLine; exact Nat.le_trans (show 1 * many.toNat ≤ 400 by omega) (by decide)⟩)
  refine ez_fzL hE ez_nil flg _ ⟨by show 2 ≤ sizeLine; decide, .int 4, _, rfl, (4 : Int), rfl, by decide, by decide, ?_⟩
  refine comp_ind (fun ds acc ρ => ∃ (m : Nat) (d i : D) (j : Option D), m + ds.length = 4 ∧ acc.length = m ∧ (∀ x ∈ acc, Tv x ∧ x.fz = x) ∧ PenOk (n + 6 * m) d ∧ ρ = env ns d a (some km.toD) (some (.lst false (eDs es))) (some (.int many)) w f g h j) (fun acc ρ hI => ?_) (fun R x ds acc ρ hI kk => ?_) _ _ _ ⟨0, pen, .non, i, rfl, rfl, (fun _ z => nomatch z), hp, rfl⟩
  · obtain ⟨m, d, _, j, hm, ha, ht, hp, rfl⟩ := hI
    rw [List.length_nil] at hm
    have az : D.isFzs acc = true := by
      rw [D.isFzs_eq, List.all_eq_true]
      exact fun x hx => fz_isFz (ht x hx).2
    have lz : D.isFzs [D.lst false (eDs es), D.lst false lg] = true := by
      rw [D.isFzs, D.isFzs, fz_isFz er, fz_isFz flg]; rfl
    refine ⟨_, rfl, _, rfl, D.lst true ([D.lst false (eDs es), D.lst false lg] ++ acc), addL ⟨by show 2 + acc.length ≤ sizeLine; exact Nat.le_trans (show 2 + acc.length ≤ 10 by omega) (by decide), lz, az⟩, _, _, rfl, ?_⟩
    refine k _ d none (fun x hx => (List.mem_append.mp hx).elim (fun z => ?_) fun z => ht x z) (by rw [List.length_append]; show 2 + acc.length ≤ 6; omega) (hp.mono (by omega))
    simp only [List.mem_cons, List.not_mem_nil, or_false] at z
    rcases z with rfl | rfl
    · exact ⟨t0, er⟩
    · exact ⟨tlg, flg⟩
  · obtain ⟨m, d, _, j, hm, ha, ht, hp, rfl⟩ := hI
    rw [List.length_cons] at hm
    dsimp only [gN, dYes]
    rw [if_pos rfl]
    refine io_take (ρ := env ns d a (some km.toD) (some (.lst false (eDs es))) (some (.int many)) w f g h (some x)) (d0 := d) (ds := [km.toD, .lst false (eDs es)]) rfl (ez_fz (d := km.toD) (ev_var (i := 3) rfl) (ez_fz (d := .lst false (eDs es)) (ev_var (i := 4) rfl) ez_nil er) e1) rfl (wbad_row_ok hp (by omega) hk ro hl fun y d' hy hyz hp' => ⟨y, _, rfl, by rw [ha]; exact Nat.lt_of_lt_of_le (show m < 10 by omega) (by decide), ?_⟩)
    exact kk _ _ ⟨m + 1, d', .non, some x, by omega, by rw [List.length_append, ha]; rfl, fun z hz => (List.mem_append.mp hz).elim (ht z) fun q => by rw [List.mem_singleton.mp q]; exact ⟨hy, hyz⟩, hp'.mono (by omega), rfl⟩
theorem law_ok (ns : List Int) (h : ns.length ≤ 63) : F_law [.lst false (ns.map D.int)] fun d => d = .bl true := by
  show rd_law _ [some (.lst false (ns.map .int)), none, none, none, none, none, none, none, none, none, none]
  unfold rd_law
  have e0 : (D.lst false (ns.map D.int)).fz = .lst false (ns.map .int) := by rw [D.fz, fzs_ints]
  dsimp only [dSeq]
  refine set_cu (ρ := [some (.lst false (ns.map .int)), none, none, none, none, none, none, none, none, none, none]) (ds := [.lst false (ns.map .int)]) (ez_fz (d := .lst false (ns.map .int)) (ev_var rfl) ez_nil e0) rfl (open_ok (Nat.le_trans h (by decide)) fun pen hp => ?_)
  refine ⟨.int 4, _, rfl, (4 : Int), rfl, by decide, by decide, ?_⟩
  refine for_ind (fun ds ρ => ∃ (n : Nat) (pen : D) (a b c d e f g h i : Option D), PenOk n pen ∧ n + 1000 * ds.length ≤ 4000 ∧ ρ = env ns pen a b c d e f g h i) (fun ρ hI => ?_) (fun R x ds ρ hI k => ?_) _ _ ⟨0, pen, none, none, none, none, none, none, none, none, none, hp, by show 0 + 1000 * 4 ≤ 4000; decide, rfl⟩
  · obtain ⟨n, pen, a, b, c, d, e, f, g, h, i, _, _, rfl⟩ := hI
    exact ev_retP ev_c fun _ => rfl
  obtain ⟨n, pen, a, b, c, d, e, f, g, h, i, hp, hn, rfl⟩ := hI
  rw [List.length_cons] at hn
  dsimp only [gN]
  refine set_io (ρ := env ns pen (some x) b c d e f g h i) (d0 := pen) (ds := [.int 6]) rfl (ez_fz (d := .int 6) ev_c ez_nil) rfl (wmap_ok hp (by omega) (by decide) (by decide) fun km p1 hk hp1 => ?_)
  have e1 : km.toD.fz = km.toD := KM.fz km
  refine set_io (ρ := env ns p1 (some x) (some km.toD) c d e f g h i) (d0 := p1) (ds := [km.toD, .int 8]) rfl (ez_fz (d := km.toD) (ev_var rfl) (ez_fz ev_c ez_nil) e1) rfl (wrow_ok hp1 (by omega) hk (by decide) (by decide) fun es p2 ro hl hp2 => ?_)
  have hp2 : PenOk (n + 500 + 35) p2 := hp2
  have hl : es.length ≤ 8 := by omega
  refine ⟨⟨p2, rfl⟩, .int 4, _, rfl, rfl, p2, rfl, take_ok hp2 (by omega) (by decide) (by decide) fun r p3 r0 r1 hp3 => ?_⟩
  refine ⟨_, rfl, _, rfl, .int (299 + r), rfl, _, _, rfl, ?_⟩
  refine things_ok (ns := ns) (pen := p3) (km := km) (es := es) (many := 299 + r) (a := some x) (w := e) (f := f) (g := g) (h := h) (i := i) hp3 (by omega) hk ro hl (by omega) (by omega) fun l p4 i' hT nl hp4 => ?_
  have lz : D.isFzs l = true := by
    rw [D.isFzs_eq, List.all_eq_true]
    exact fun x hx => fz_isFz (hT x hx).2
  refine ⟨_, rfl, .lst false l, env ns p4 (some x) (some km.toD) (some (.lst false (eDs es))) (some (.int (299 + r))) (some (.lst false l)) f g h i', ?_, l, rfl, ?_⟩
  · show some ((D.lst true l).fz, [_, _, _, _, _, _, some (D.lst true l).fz, _, _, _, _]) = _
    rw [D.fz, D.fzs_of _ lz]
  refine for_ind (fun ds ρ => ∃ (f g h : Option D), (∀ x ∈ ds, Tv x ∧ x.fz = x) ∧ ρ = env ns p4 (some x) (some km.toD) (some (.lst false (eDs es))) (some (.int (299 + r))) (some (.lst false l)) f g h i') (fun ρ hI => ?_) (fun R y ds ρ hI kk => ?_) _ _ ⟨f, g, h, hT, rfl⟩
  · obtain ⟨f, g, h, _, rfl⟩ := hI
    exact k _ ⟨_, p4, _, _, _, _, _, _, _, _, _, hp4, by omega, rfl⟩
  obtain ⟨f, g, h, hm, rfl⟩ := hI
  obtain ⟨ty, fy⟩ := hm y List.mem_cons_self
  dsimp only [gN]
  have hrep : reprOk y = true := ty.sh.ok (by decide) (by decide)
  refine ev_set (ρ := env ns p4 (some x) (some km.toD) (some (.lst false (eDs es))) (some (.int (299 + r))) (some (.lst false l)) (some y) g h i') (ev_repr (d := y) (ev_var rfl) hrep) rfl ?_
  obtain ⟨z, ez⟩ : ∃ z, y.shown = z := ⟨_, rfl⟩
  have hz : okS z := by rw [← ez]; exact shown_ok y ty.ask.1
  obtain ⟨q, hq⟩ : ∃ q, isRowB km.outside y = q := ⟨_, rfl⟩
  refine set_cu (ρ := env ns p4 (some x) (some km.toD) (some (.lst false (eDs es))) (some (.int (299 + r))) (some (.lst false l)) (some y) (some (.str y.shown)) h i') (ds := [km.toD, y]) (ez_fz (d := km.toD) (ev_var (i := 3) rfl) (ez_fz (d := y) (ev_var (i := 7) rfl) ez_nil fy) e1) rfl (is_row_ok (kok hk) ty.ask ?_)
  rw [ez, hq]
  dsimp only
  refine et_if (c := false) (ρ := env ns p4 (some x) (some km.toD) (some (.lst false (eDs es))) (some (.int (299 + r))) (some (.lst false l)) (some y) (some (.str z)) (some (.bl q)) i') ?_ ?_
  rotate_left
  · exact kk _ ⟨some y, some (.str z), some (.bl q), fun x hx => hm x (List.mem_cons_of_mem _ hx), rfl⟩
  have e3 : (false || (!(q == q) || false)) = false := by cases q <;> rfl
  refine et_cast (c := (false || (!(q == q) || false))) ?_ e3
  refine et_or (et_not (et_tru (ev_isi (T := .bool) (n := .bool) (ev_var (d := .bl q) (i := 9) rfl) rfl))) fun _ => et_or (et_tst (ev_bin (ev_var (i := 9) rfl) (ev_callN (d := .bl q) (ez_fz (d := km.toD) (ev_var (i := 3) rfl) (ez_fz (d := y) (ev_var (i := 7) rfl) ez_nil fy) e1) rfl fun Q hQ => wis_row_ok (kok hk) ty.ask (by rw [hq]; exact hQ)) (ne_bl q q))) fun _ => et_tst (ev_bin (ev_repr (d := y) (ev_var (i := 7) rfl) hrep) (ev_var (i := 8) rfl) (by rw [show y.shown = z from ez]; exact ne_str hz))
end Gk06
set_option maxHeartbeats 0
namespace Gk06
open PySem PySem.Spec L2 KW
open PyProof.Rows hiding St
/-! ### the end -/
theorem run (w : World) : HandSHeadRun.RunEq R (PySem.W.view R.prog [lawAt]) hk ob 4000 loose w := by
  intro os
  kernel_rfl
theorem lawX {P : Program} {w : World} {K : PySem.W.Frag} {h : Heap} {mg : Str → Option Value} {f : Addr} (X : K.In h) (G : h.Ns mainGlobals mg) (hfa : mg ("law" : Str) = some (.ref f)) (c : He.SaysD facts defs K) (S : SysD K) :
    ∃ fd : FuncData, (∀ (s : Shared) (v : Value), BindsTo s fd ⟨[v], []⟩ [("_law_script", v)]) ∧ ∀ base : Heap, K.In base → base.Ns mainGlobals mg → FnG P w K mg base CX0 lawLevel f fd ["_law_script"] (spP w K 1 F_law) :=
  law_fd hfa (txt X G c S).d_law (fun base => fn_law (base := base) (txt X G c S)) fun _ _ _ _ _ _ us hl => match us, hl with | [_], _ => rfl
end Gk06
set_option maxHeartbeats 0
open PySem PySem.W PySem.Calls PyProof.Rows
theorem PySem.Challenge.cw_keywait_k06_rows_known_holds : PySem.Challenge.rw_keywait_k06_rows_known.Holds := by
  w_on; o_law
  refine HandSHeadRun.head_any (r := OpenLaw.row PySem.Challenge.rw_keywait_k06_rows_known) (q := view (OpenLaw.row PySem.Challenge.rw_keywait_k06_rows_known).prog [Gk06.lawAt]) (H := Gk06.hk) (ob := Gk06.ob) (M := 4000) (loose := Gk06.loose) (d := HandSHeadRun.topDef (OpenLaw.row PySem.Challenge.rw_keywait_k06_rows_known).prog Gk06.lawAt) (kwd := []) Gk06.ob_eq
    (by kernel_rfl) (fun s => by kernel_rfl) Gk06.run (by kernel_rfl) (by kernel_rfl) (by kernel_rfl) (by rfl) (by first | assumption | decide +kernel) (by decide +kernel) ⟨rfl, rfl, rfl, rfl, rfl, by decide +kernel⟩ ?hw ?hc
  case hw => w_witness2
  case hc =>
    refine KW.walk_ofG (l := PySem.Challenge.rw_keywait_k06_rows_known) (n := 63) (k := Gk06.lawLevel) (x := "_law_script") (CX := L2.CX0) rfl (by decide) (by kernel_rfl) ⟨rfl, by decide, by decide⟩ ?F (fun _ _ _ _ z => z)
    intro w mg fa h Y G hmg0
    obtain ⟨K, KX, c, S⟩ := Y
    have hmg : mg ("law" : PySem.Str) = some (.ref fa) := by
      have e : (HandSHeadRun.topDef (OpenLaw.row PySem.Challenge.rw_keywait_k06_rows_known).prog Gk06.lawAt).name = ("law" : PySem.Str) := by kernel_rfl
      rw [← e]
      exact hmg0
    obtain ⟨fd, hb, hF⟩ := Gk06.lawX (P := (PySem.Challenge.rw_keywait_k06_rows_known).prog) (w := w) KX G hmg c S
    exact ⟨K, fd, _, KX, hb, fun H a ns hl hO hS => KW.law_sp Gk06.law_ok H a ns hl hO hS, hF⟩
