/-
  Helper text: plain Lean models of the functions that the law reaches. No conditions.
-/
import Derived.Test.YtfcfdnmhpdgjfaaShQ
namespace Go.Proofs.Ytfcfdnmhpdgjfaa.gen
open Go Go.Sh
set_option linter.unusedVariables false
set_option linter.unusedSimpArgs false
structure M.Response where
  Type_ : Int
  Status : Int
  Version : Int
  Body : List Int
  Shares : Bool
def M.Response.en (x : M.Response) : List D := [.int .i64 x.Type_, .int .i64 x.Status, .int .i64 x.Version, .sl (List.map enB x.Body), .bool x.Shares]
structure M.Cached where
  Site : ByteArray
  Path : ByteArray
  Response : M.Response
def M.Cached.en (x : M.Cached) : List D := [.str x.Site, .str x.Path, .int .i64 x.Response.Type_, .int .i64 x.Response.Status, .int .i64 x.Response.Version, .sl (List.map enB x.Response.Body), .bool x.Response.Shares]
structure M.Cache where
  Version : Int
  Entries : List M.Cached
def M.Cache.en (x : M.Cache) : List D := [.int .i64 x.Version, .sl (List.map M.Cached.en x.Entries)]
structure M.CacheSet where
  Caches : List M.Cache
def M.CacheSet.en (x : M.CacheSet) : List D := [.sl (List.map M.Cache.en x.Caches)]
structure M.Site where
  Name : ByteArray
  Version : Int
  Files : List ByteArray
  Shared : Bool
def M.Site.en (x : M.Site) : List D := [.str x.Name, .int .i64 x.Version, .sl (List.map enS x.Files), .bool x.Shared]
def m_laws_szByteS (p0 : List Int) (p1 : Int) : Option Int :=
  if (decide ((IntKind.i64.wrap (p1 - (List.length p0 : Int))) < 0)) = true then (some (-1)) else (some (IntKind.i64.wrap (p1 - (List.length p0 : Int))))
def m_laws_szResponse (p0 : M.Response) (p1 : Int) : Option Int :=
  (m_laws_szByteS p0.Body p1).bind fun x1 => (if (decide (x1 < 0)) = true then (some (-1)) else (some x1))
def m_laws_szCached (p0 : M.Cached) (p1 : Int) : Option Int :=
  if (decide ((IntKind.i64.wrap (p1 - (p0.Site.size : Int))) < 0)) = true then (some (-1)) else (if (decide ((IntKind.i64.wrap ((IntKind.i64.wrap (p1 - (p0.Site.size : Int))) - (p0.Path.size : Int))) < 0)) = true then (some (-1)) else ((m_laws_szResponse p0.Response (IntKind.i64.wrap ((IntKind.i64.wrap (p1 - (p0.Site.size : Int))) - (p0.Path.size : Int)))).bind fun x3 => (if (decide (x3 < 0)) = true then (some (-1)) else (some x3))))
def m_laws_szCachedS_L1 (p0 : List M.Cached) : Nat → Int → Int → Option Int
  | 0, _, _ => none
  | nL1 + 1, v1, v5 => if (decide (v5 < (List.length p0 : Int))) = true then ((idx p0 v5).bind fun x7 => ((m_laws_szCached x7 v1).bind fun x12 => (if (decide (x12 < 0)) = true then (some (-1)) else (m_laws_szCachedS_L1 p0 nL1 x12 (IntKind.i64.wrap (v5 + 1)))))) else (some v1)
def m_laws_szCachedS (p0 : List M.Cached) (p1 : Int) : Option Int :=
  if (decide ((IntKind.i64.wrap (p1 - (List.length p0 : Int))) < 0)) = true then (some (-1)) else (m_laws_szCachedS_L1 p0 fuel (IntKind.i64.wrap (p1 - (List.length p0 : Int))) 0)
def m_laws_szCache (p0 : M.Cache) (p1 : Int) : Option Int :=
  (m_laws_szCachedS p0.Entries p1).bind fun x1 => (if (decide (x1 < 0)) = true then (some (-1)) else (some x1))
def m_laws_szCacheS_L1 (p0 : List M.Cache) : Nat → Int → Int → Option Int
  | 0, _, _ => none
  | nL1 + 1, v1, v5 => if (decide (v5 < (List.length p0 : Int))) = true then ((idx p0 v5).bind fun x7 => ((m_laws_szCache x7 v1).bind fun x12 => (if (decide (x12 < 0)) = true then (some (-1)) else (m_laws_szCacheS_L1 p0 nL1 x12 (IntKind.i64.wrap (v5 + 1)))))) else (some v1)
def m_laws_szCacheS (p0 : List M.Cache) (p1 : Int) : Option Int :=
  if (decide ((IntKind.i64.wrap (p1 - (List.length p0 : Int))) < 0)) = true then (some (-1)) else (m_laws_szCacheS_L1 p0 fuel (IntKind.i64.wrap (p1 - (List.length p0 : Int))) 0)
def m_laws_szCacheSet (p0 : M.CacheSet) (p1 : Int) : Option Int :=
  (m_laws_szCacheS p0.Caches p1).bind fun x1 => (if (decide (x1 < 0)) = true then (some (-1)) else (some x1))
def m_laws_szStringS_L1 (p0 : List ByteArray) : Nat → Int → Int → Option Int
  | 0, _, _ => none
  | nL1 + 1, v1, v5 => if (decide (v5 < (List.length p0 : Int))) = true then ((idx p0 v5).bind fun x7 => (if (decide ((IntKind.i64.wrap (v1 - (x7.size : Int))) < 0)) = true then (some (-1)) else (m_laws_szStringS_L1 p0 nL1 (IntKind.i64.wrap (v1 - (x7.size : Int))) (IntKind.i64.wrap (v5 + 1))))) else (some v1)
def m_laws_szStringS (p0 : List ByteArray) (p1 : Int) : Option Int :=
  if (decide ((IntKind.i64.wrap (p1 - (List.length p0 : Int))) < 0)) = true then (some (-1)) else (m_laws_szStringS_L1 p0 fuel (IntKind.i64.wrap (p1 - (List.length p0 : Int))) 0)
def m_laws_szSite (p0 : M.Site) (p1 : Int) : Option Int :=
  if (decide ((IntKind.i64.wrap (p1 - (p0.Name.size : Int))) < 0)) = true then (some (-1)) else ((m_laws_szStringS p0.Files (IntKind.i64.wrap (p1 - (p0.Name.size : Int)))).bind fun x2 => (if (decide (x2 < 0)) = true then (some (-1)) else (some x2)))
def m_laws_toByteS_L1 (p0 : List Int) : Nat → Int → List Int → Option (List Int)
  | 0, _, _ => none
  | nL1 + 1, v4, r7 => if (decide (v4 < (List.length p0 : Int))) = true then ((idx p0 v4).bind fun x13 => ((idx r7 v4).bind fun x18 => (m_laws_toByteS_L1 p0 nL1 (IntKind.i64.wrap (v4 + 1)) (List.set r7 v4.toNat x13)))) else (some r7)
def m_laws_toByteS (p0 : List Int) : Option (List Int) :=
  (mkL 1 (List.length p0 : Int) 0).bind fun x1 => (m_laws_toByteS_L1 p0 fuel 0 (List.replicate (List.length p0 : Int).toNat 0))
def m_laws_toResponse (p0 : M.Response) : Option M.Response :=
  (m_laws_toByteS p0.Body).bind fun x1 => (some (⟨p0.Type_, p0.Status, p0.Version, x1, p0.Shares⟩ : M.Response))
def m_laws_toCached (p0 : M.Cached) : Option M.Cached :=
  (m_laws_toResponse p0.Response).bind fun x1 => (some (⟨p0.Site, p0.Path, x1⟩ : M.Cached))
def m_laws_toCachedS_L1 (p0 : List M.Cached) : Nat → Int → List M.Cached → Option (List M.Cached)
  | 0, _, _ => none
  | nL1 + 1, v4, r7 => if (decide (v4 < (List.length p0 : Int))) = true then ((idx p0 v4).bind fun x13 => ((m_laws_toCached x13).bind fun x18 => ((idx r7 v4).bind fun x20 => (m_laws_toCachedS_L1 p0 nL1 (IntKind.i64.wrap (v4 + 1)) (List.set r7 v4.toNat x18))))) else (some r7)
def m_laws_toCachedS (p0 : List M.Cached) : Option (List M.Cached) :=
  (mkL 88 (List.length p0 : Int) (⟨(⟨#[]⟩ : ByteArray), (⟨#[]⟩ : ByteArray), (⟨0, 0, 0, ([] : List Int), false⟩ : M.Response)⟩ : M.Cached)).bind fun x1 => (m_laws_toCachedS_L1 p0 fuel 0 (List.replicate (List.length p0 : Int).toNat (⟨(⟨#[]⟩ : ByteArray), (⟨#[]⟩ : ByteArray), (⟨0, 0, 0, ([] : List Int), false⟩ : M.Response)⟩ : M.Cached)))
def m_laws_toCache (p0 : M.Cache) : Option M.Cache :=
  (m_laws_toCachedS p0.Entries).bind fun x1 => (some (⟨p0.Version, x1⟩ : M.Cache))
def m_laws_toCacheS_L1 (p0 : List M.Cache) : Nat → Int → List M.Cache → Option (List M.Cache)
  | 0, _, _ => none
  | nL1 + 1, v4, r7 => if (decide (v4 < (List.length p0 : Int))) = true then ((idx p0 v4).bind fun x13 => ((m_laws_toCache x13).bind fun x18 => ((idx r7 v4).bind fun x20 => (m_laws_toCacheS_L1 p0 nL1 (IntKind.i64.wrap (v4 + 1)) (List.set r7 v4.toNat x18))))) else (some r7)
def m_laws_toCacheS (p0 : List M.Cache) : Option (List M.Cache) :=
  (mkL 32 (List.length p0 : Int) (⟨0, ([] : List M.Cached)⟩ : M.Cache)).bind fun x1 => (m_laws_toCacheS_L1 p0 fuel 0 (List.replicate (List.length p0 : Int).toNat (⟨0, ([] : List M.Cached)⟩ : M.Cache)))
def m_laws_toCacheSet (p0 : M.CacheSet) : Option M.CacheSet :=
  (m_laws_toCacheS p0.Caches).bind fun x1 => (some (⟨x1⟩ : M.CacheSet))
def m_laws_toStringS_L1 (p0 : List ByteArray) : Nat → Int → List ByteArray → Option (List ByteArray)
  | 0, _, _ => none
  | nL1 + 1, v4, r7 => if (decide (v4 < (List.length p0 : Int))) = true then ((idx p0 v4).bind fun x13 => ((idx r7 v4).bind fun x18 => (m_laws_toStringS_L1 p0 nL1 (IntKind.i64.wrap (v4 + 1)) (List.set r7 v4.toNat x13)))) else (some r7)
def m_laws_toStringS (p0 : List ByteArray) : Option (List ByteArray) :=
  (mkL 16 (List.length p0 : Int) (⟨#[]⟩ : ByteArray)).bind fun x1 => (m_laws_toStringS_L1 p0 fuel 0 (List.replicate (List.length p0 : Int).toNat (⟨#[]⟩ : ByteArray)))
def m_laws_toSite (p0 : M.Site) : Option M.Site :=
  (m_laws_toStringS p0.Files).bind fun x1 => (some (⟨p0.Name, p0.Version, x1, p0.Shared⟩ : M.Site))
def m_spec_FindCache_L1 (p0 : M.CacheSet) (p1 : Int) : Nat → Int → Option Int
  | 0, _ => none
  | nL1 + 1, v5 => if (decide (v5 < (List.length p0.Caches : Int))) = true then ((idx p0.Caches v5).bind fun x7 => (if (x7.Version == p1) = true then (some v5) else (m_spec_FindCache_L1 p0 p1 nL1 (IntKind.i64.wrap (v5 + 1))))) else (some (-1))
def m_spec_FindCache (p0 : M.CacheSet) (p1 : Int) : Option Int :=
  m_spec_FindCache_L1 p0 p1 fuel 0
def m_spec_ErrorResponse  : Option M.Response :=
  some (⟨4, 0, 0, ([] : List Int), false⟩ : M.Response)
def m_spec_l17Find_L1 (p0 : M.Cache) (p1 : ByteArray) (p2 : ByteArray) : Nat → Int → Option Int
  | 0, _ => none
  | nL1 + 1, v7 => if (decide (v7 < (List.length p0.Entries : Int))) = true then ((idx p0.Entries v7).bind fun x8 => (if (x8.Site.toList == p1.toList) = true then (if (x8.Path.toList == p2.toList) = true then (some v7) else (m_spec_l17Find_L1 p0 p1 p2 nL1 (IntKind.i64.wrap (v7 + 1)))) else (m_spec_l17Find_L1 p0 p1 p2 nL1 (IntKind.i64.wrap (v7 + 1))))) else (some (-1))
def m_spec_l17Find (p0 : M.Cache) (p1 : ByteArray) (p2 : ByteArray) : Option Int :=
  m_spec_l17Find_L1 p0 p1 p2 fuel 0
def m_spec_l15Copy (p0 : M.Response) : Option M.Response :=
  (app 1 ([] : List Int) p0.Body).bind fun x1 => (some p0)
def m_spec_MatchCache (p0 : M.CacheSet) (p1 : Int) (p2 : ByteArray) (p3 : ByteArray) : Option (M.Response × Bool) :=
  (m_spec_FindCache p0 p1).bind fun x1 => (if (decide (x1 < 0)) = true then ((m_spec_ErrorResponse).bind fun x4 => (some (x4, false))) else ((idx p0.Caches x1).bind fun x6 => ((m_spec_l17Find x6 p2 p3).bind fun x11 => (if (decide (x11 < 0)) = true then ((m_spec_ErrorResponse).bind fun x14 => (some (x14, false))) else ((idx x6.Entries x11).bind fun x16 => ((m_spec_l15Copy x16.Response).bind fun x21 => (some (x21, true))))))))
def m_spec_BytesToInts_L1 (p0 : List Int) : Nat → Int → List Int → Option (List Int)
  | 0, _, _ => none
  | nL1 + 1, v4, r7 => if (decide (v4 < (List.length p0 : Int))) = true then ((idx p0 v4).bind fun x11 => ((app 8 r7 ([(IntKind.i64.wrap x11)])).bind fun x16 => (m_spec_BytesToInts_L1 p0 nL1 (IntKind.i64.wrap (v4 + 1)) (r7 ++ [(IntKind.i64.wrap x11)])))) else (some r7)
def m_spec_BytesToInts (p0 : List Int) : Option (List Int) :=
  m_spec_BytesToInts_L1 p0 fuel 0 ([(List.length p0 : Int)])
def m_spec_l1In (p0 : Int) (p1 : Int) (p2 : Int) : Option Bool :=
  if (decide (p0 ≥ p1)) = true then (some (decide (p0 ≤ p2))) else (some false)
def m_spec_Mod (p0 : Int) (p1 : Int) : Option Int :=
  (m_spec_l1In p1 1 1000000000000).bind fun x1 => (if (!x1) = true then (some 0) else (if (decide (p1 = 0)) = true then none else (some (Int.tmod (IntKind.i64.wrap ((Int.tmod p0 p1) + p1)) p1))))
def m_spec_Hash_L1 (p0 : List Int) : Nat → Int → Int → Option Int
  | 0, _, _ => none
  | nL1 + 1, v3, v4 => if (decide (v4 < (List.length p0 : Int))) = true then ((idx p0 v4).bind fun x6 => ((m_spec_Mod x6 2147483647).bind fun x11 => (m_spec_Hash_L1 p0 nL1 (Int.tmod (IntKind.i64.wrap ((IntKind.i64.wrap ((IntKind.i64.wrap (v3 * 1000003)) + x11)) + 13)) 2147483647) (IntKind.i64.wrap (v4 + 1))))) else (some v3)
def m_spec_Hash (p0 : List Int) : Option Int :=
  m_spec_Hash_L1 p0 fuel 11 0
def m_spec_KeyedHash (p0 : Int) (p1 : List Int) : Option Int :=
  (app 8 ([p0]) p1).bind fun x1 => ((app 8 ([p0] ++ p1) ([p0])).bind fun x3 => ((m_spec_Hash (([p0] ++ p1) ++ [p0])).bind fun x5 => (some x5)))
def m_spec_Max (p0 : Int) (p1 : Int) : Option Int :=
  if (decide (p1 > p0)) = true then (some p1) else (some p0)
def m_spec_DeriveFromString (p0 : Int) (p1 : ByteArray) : Option Int :=
  (m_spec_BytesToInts (strBytes p1)).bind fun x1 => ((m_spec_KeyedHash p0 x1).bind fun x3 => ((m_spec_Max 1 x3).bind fun x5 => (some x5)))
def m_spec_BodyOf_L1 (x5 : Int) : Nat → Int → List Int → Option (List Int)
  | 0, _, _ => none
  | nL1 + 1, v9, r19 => if (decide (v9 ≥ 0)) = true then (if (decide (0 ≤ (IntKind.i64.wrap (8 * v9)))) = true then ((app 1 r19 ([(IntKind.u8.wrap (IntKind.i64.wrap (BitVec.ofInt (IntKind.i64.bits) (Int.fdiv x5 (2 ^ (min (IntKind.i64.wrap (8 * v9)).toNat IntKind.i64.bits))) &&& BitVec.ofInt (IntKind.i64.bits) 255).toNat))])).bind fun x20 => (m_spec_BodyOf_L1 x5 nL1 (IntKind.i64.wrap (v9 - 1)) (r19 ++ [(IntKind.u8.wrap (IntKind.i64.wrap (BitVec.ofInt (IntKind.i64.bits) (Int.fdiv x5 (2 ^ (min (IntKind.i64.wrap (8 * v9)).toNat IntKind.i64.bits))) &&& BitVec.ofInt (IntKind.i64.bits) 255).toNat))]))) else none) else (some r19)
def m_spec_BodyOf (p0 : M.Site) (p1 : ByteArray) (p2 : Int) : Option (List Int) :=
  (m_spec_DeriveFromString 107 p0.Name).bind fun x1 => ((m_spec_DeriveFromString 109 p1).bind fun x3 => ((m_spec_KeyedHash (IntKind.i64.wrap (1 + p2)) ([103, x1, x3])).bind fun x5 => (m_spec_BodyOf_L1 x5 fuel 5 ([] : List Int))))
def m_spec_EqualBytes (p0 : List Int) (p1 : List Int) : Option Bool :=
  (toStr p0).bind fun x1 => ((toStr p1).bind fun x3 => (some ((bytesStr p0).toList == (bytesStr p1).toList)))
def m_spec_CacheComplete_L1 (p0 : M.CacheSet) (p1 : M.Site) (p2 : Int) : Nat → Int → Option Bool
  | 0, _ => none
  | nL1 + 1, v7 => if (decide (v7 < (List.length p1.Files : Int))) = true then ((idx p1.Files v7).bind fun x9 => ((m_spec_MatchCache p0 p2 p1.Name x9).bind fun x14 => (if (!x14.2) = true then (some false) else (if (x14.1.Status != 200) = true then (some false) else (if (x14.1.Version != p2) = true then (some false) else ((m_spec_BodyOf p1 x9 p2).bind fun x19 => ((m_spec_EqualBytes x14.1.Body x19).bind fun x21 => (if (!x21) = true then (some false) else (m_spec_CacheComplete_L1 p0 p1 p2 nL1 (IntKind.i64.wrap (v7 + 1))))))))))) else ((m_spec_FindCache p0 p2).bind fun x24 => (some (decide (x24 ≥ 0))))
def m_spec_CacheComplete (p0 : M.CacheSet) (p1 : M.Site) (p2 : Int) : Option Bool :=
  m_spec_CacheComplete_L1 p0 p1 p2 fuel 0
def m_impl_FindCache_1 (p0 : M.Cache) (c0 : Int) : Option Bool :=
  some (p0.Version == c0)
def m_slices_IndexFunc_Cache_L1 (p0 : List M.Cache) (p1 : M.Cache → Option Bool) : Nat → Int → Option Int
  | 0, _ => none
  | nL1 + 1, v8 => if (decide (v8 < (List.length p0 : Int))) = true then ((idx p0 v8).bind fun x7 => ((p1 x7).bind fun x12 => (if x12 = true then (some v8) else (m_slices_IndexFunc_Cache_L1 p0 p1 nL1 (IntKind.i64.wrap (v8 + 1)))))) else (some (-1))
def m_slices_IndexFunc_Cache (p0 : List M.Cache) (p1 : M.Cache → Option Bool) : Option Int :=
  m_slices_IndexFunc_Cache_L1 p0 p1 fuel 0
def m_impl_FindCache (p0 : M.CacheSet) (p1 : Int) : Option Int :=
  (m_slices_IndexFunc_Cache p0.Caches (fun z0 => m_impl_FindCache_1 z0 p1)).bind fun x1 => (some x1)
def m_impl_ErrorResponse  : Option M.Response :=
  some (⟨4, 0, 0, ([] : List Int), false⟩ : M.Response)
def m_impl_entryAt_1 (p0 : M.Cached) (c0 : ByteArray) (c1 : ByteArray) : Option Bool :=
  if (p0.Site.toList == c0.toList) = true then (some (p0.Path.toList == c1.toList)) else (some false)
def m_slices_IndexFunc_Cached_L1 (p0 : List M.Cached) (p1 : M.Cached → Option Bool) : Nat → Int → Option Int
  | 0, _ => none
  | nL1 + 1, v8 => if (decide (v8 < (List.length p0 : Int))) = true then ((idx p0 v8).bind fun x7 => ((p1 x7).bind fun x12 => (if x12 = true then (some v8) else (m_slices_IndexFunc_Cached_L1 p0 p1 nL1 (IntKind.i64.wrap (v8 + 1)))))) else (some (-1))
def m_slices_IndexFunc_Cached (p0 : List M.Cached) (p1 : M.Cached → Option Bool) : Option Int :=
  m_slices_IndexFunc_Cached_L1 p0 p1 fuel 0
def m_impl_entryAt (p0 : M.Cache) (p1 : ByteArray) (p2 : ByteArray) : Option Int :=
  (m_slices_IndexFunc_Cached p0.Entries (fun z0 => m_impl_entryAt_1 z0 p1 p2)).bind fun x1 => (some x1)
def m_impl_copyBytes (p0 : List Int) : Option (List Int) :=
  (app 1 ([] : List Int) p0).bind fun x1 => (some p0)
def m_impl_copyResponse (p0 : M.Response) : Option M.Response :=
  (m_impl_copyBytes p0.Body).bind fun x1 => (some (⟨p0.Type_, p0.Status, p0.Version, x1, p0.Shares⟩ : M.Response))
def m_impl_MatchCache (p0 : M.CacheSet) (p1 : Int) (p2 : ByteArray) (p3 : ByteArray) : Option (M.Response × Bool) :=
  (m_impl_FindCache p0 p1).bind fun x1 => (if (decide (x1 < 0)) = true then ((m_impl_ErrorResponse).bind fun x4 => (some (x4, false))) else ((idx p0.Caches x1).bind fun x6 => ((m_impl_entryAt x6 p2 p3).bind fun x11 => (if (decide (x11 < 0)) = true then ((m_impl_ErrorResponse).bind fun x14 => (some (x14, false))) else ((idx x6.Entries x11).bind fun x16 => ((m_impl_copyResponse x16.Response).bind fun x21 => (some (x21, true))))))))
def m_impl_BytesToInts_L1 (p0 : List Int) : Nat → Int → List Int → Option (List Int)
  | 0, _, _ => none
  | nL1 + 1, v11, r8 => if (decide (v11 < (List.length p0 : Int))) = true then ((idx p0 v11).bind fun x12 => ((app 8 r8 ([(IntKind.i64.wrap x12)])).bind fun x17 => (m_impl_BytesToInts_L1 p0 nL1 (IntKind.i64.wrap (v11 + 1)) (r8 ++ [(IntKind.i64.wrap x12)])))) else (some r8)
def m_impl_BytesToInts (p0 : List Int) : Option (List Int) :=
  m_impl_BytesToInts_L1 p0 fuel 0 ([(List.length p0 : Int)])
def m_impl_InRange (p0 : Int) (p1 : Int) (p2 : Int) : Option Bool :=
  if (decide (p1 ≤ p0)) = true then (some (decide (p0 ≤ p2))) else (some false)
def m_impl_Mod (p0 : Int) (p1 : Int) : Option Int :=
  (m_impl_InRange p1 1 1000000000000).bind fun x1 => (if (!x1) = true then (some 0) else (if (decide (p1 = 0)) = true then none else (if (decide ((Int.tmod p0 p1) < 0)) = true then (some (IntKind.i64.wrap ((Int.tmod p0 p1) + p1))) else (some (Int.tmod p0 p1)))))
def m_impl_Hash_L1 (p0 : List Int) : Nat → Int → Int → Option Int
  | 0, _, _ => none
  | nL1 + 1, v3, v8 => if (decide (v8 < (List.length p0 : Int))) = true then ((idx p0 v8).bind fun x7 => ((m_impl_Mod x7 2147483647).bind fun x12 => (m_impl_Hash_L1 p0 nL1 (Int.tmod (IntKind.i64.wrap ((IntKind.i64.wrap ((IntKind.i64.wrap (v3 * 1000003)) + x12)) + 13)) 2147483647) (IntKind.i64.wrap (v8 + 1))))) else (some v3)
def m_impl_Hash (p0 : List Int) : Option Int :=
  m_impl_Hash_L1 p0 fuel 11 0
def m_impl_KeyedHash (p0 : Int) (p1 : List Int) : Option Int :=
  (app 8 ([p0]) p1).bind fun x1 => ((app 8 ([p0] ++ p1) ([p0])).bind fun x3 => ((m_impl_Hash (([p0] ++ p1) ++ [p0])).bind fun x5 => (some x5)))
def m_impl_DeriveFromString (p0 : Int) (p1 : ByteArray) : Option Int :=
  (m_impl_BytesToInts (strBytes p1)).bind fun x1 => ((m_impl_KeyedHash p0 x1).bind fun x3 => (if (x3 == 0) = true then (some 1) else (some x3)))
def m_impl_BodyOf_L1 (x5 : Int) : Nat → Int → List Int → Option (List Int)
  | 0, _, _ => none
  | nL1 + 1, v9, r19 => if (decide (v9 ≥ 0)) = true then (if (decide (0 ≤ (IntKind.i64.wrap (8 * v9)))) = true then ((app 1 r19 ([(IntKind.u8.wrap (Int.fdiv x5 (2 ^ (min (IntKind.i64.wrap (8 * v9)).toNat IntKind.i64.bits))))])).bind fun x20 => (m_impl_BodyOf_L1 x5 nL1 (IntKind.i64.wrap (v9 - 1)) (r19 ++ [(IntKind.u8.wrap (Int.fdiv x5 (2 ^ (min (IntKind.i64.wrap (8 * v9)).toNat IntKind.i64.bits))))]))) else none) else (some r19)
def m_impl_BodyOf (p0 : M.Site) (p1 : ByteArray) (p2 : Int) : Option (List Int) :=
  (m_impl_DeriveFromString 107 p0.Name).bind fun x1 => ((m_impl_DeriveFromString 109 p1).bind fun x3 => ((m_impl_KeyedHash (IntKind.i64.wrap (1 + p2)) ([103, x1, x3])).bind fun x5 => (m_impl_BodyOf_L1 x5 fuel 5 ([] : List Int))))
def m_slices_Equal_byte_L1 (p0 : List Int) (p1 : List Int) : Nat → Int → Option Bool
  | 0, _ => none
  | nL1 + 1, v13 => if (decide (v13 < (List.length p0 : Int))) = true then ((idx p0 v13).bind fun x8 => ((idx p1 v13).bind fun x13 => (if (x8 != x13) = true then (some false) else (m_slices_Equal_byte_L1 p0 p1 nL1 (IntKind.i64.wrap (v13 + 1)))))) else (some true)
def m_slices_Equal_byte (p0 : List Int) (p1 : List Int) : Option Bool :=
  if ((List.length p0 : Int) != (List.length p1 : Int)) = true then (some false) else (m_slices_Equal_byte_L1 p0 p1 fuel 0)
def m_impl_EqualBytes (p0 : List Int) (p1 : List Int) : Option Bool :=
  (m_slices_Equal_byte p0 p1).bind fun x1 => (some x1)
def m_impl_CacheComplete_L1 (p0 : M.CacheSet) (p1 : M.Site) (p2 : Int) : Nat → Int → Option Bool
  | 0, _ => none
  | nL1 + 1, v14 => if (decide (v14 < (List.length p1.Files : Int))) = true then ((idx p1.Files v14).bind fun x11 => ((m_impl_MatchCache p0 p2 p1.Name x11).bind fun x16 => (if (!x16.2) = true then (some false) else (if (x16.1.Status != 200) = true then (some false) else (if (x16.1.Version != p2) = true then (some false) else ((m_impl_BodyOf p1 x11 p2).bind fun x21 => ((m_impl_EqualBytes x16.1.Body x21).bind fun x23 => (if (!x23) = true then (some false) else (m_impl_CacheComplete_L1 p0 p1 p2 nL1 (IntKind.i64.wrap (v14 + 1))))))))))) else ((m_impl_FindCache p0 p2).bind fun x26 => (some (decide (x26 ≥ 0))))
def m_impl_CacheComplete (p0 : M.CacheSet) (p1 : M.Site) (p2 : Int) : Option Bool :=
  m_impl_CacheComplete_L1 p0 p1 p2 fuel 0
def m_laws_eqByteS_L1 (p0 : List Int) (p1 : List Int) : Nat → Int → Option Bool
  | 0, _ => none
  | nL1 + 1, v5 => if (decide (v5 < (List.length p0 : Int))) = true then ((idx p0 v5).bind fun x7 => ((idx p1 v5).bind fun x12 => (if (x7 != x12) = true then (some false) else (m_laws_eqByteS_L1 p0 p1 nL1 (IntKind.i64.wrap (v5 + 1)))))) else (some true)
def m_laws_eqByteS (p0 : List Int) (p1 : List Int) : Option Bool :=
  if ((List.length p0 : Int) != (List.length p1 : Int)) = true then (some false) else (m_laws_eqByteS_L1 p0 p1 fuel 0)
def m_laws_eqResponse (p0 : M.Response) (p1 : M.Response) : Option Bool :=
  if (p0.Type_ != p1.Type_) = true then (some false) else (if (p0.Status != p1.Status) = true then (some false) else (if (p0.Version != p1.Version) = true then (some false) else ((m_laws_eqByteS p0.Body p1.Body).bind fun x4 => (if (!x4) = true then (some false) else (if (!(p0.Shares == p1.Shares)) = true then (some false) else (some true))))))
def m_laws_eqCached (p0 : M.Cached) (p1 : M.Cached) : Option Bool :=
  if (!(p0.Site.toList == p1.Site.toList)) = true then (some false) else (if (!(p0.Path.toList == p1.Path.toList)) = true then (some false) else ((m_laws_eqResponse p0.Response p1.Response).bind fun x3 => (if (!x3) = true then (some false) else (some true))))
def m_laws_eqCachedS_L1 (p0 : List M.Cached) (p1 : List M.Cached) : Nat → Int → Option Bool
  | 0, _ => none
  | nL1 + 1, v5 => if (decide (v5 < (List.length p0 : Int))) = true then ((idx p0 v5).bind fun x7 => ((idx p1 v5).bind fun x12 => ((m_laws_eqCached x7 x12).bind fun x17 => (if (!x17) = true then (some false) else (m_laws_eqCachedS_L1 p0 p1 nL1 (IntKind.i64.wrap (v5 + 1))))))) else (some true)
def m_laws_eqCachedS (p0 : List M.Cached) (p1 : List M.Cached) : Option Bool :=
  if ((List.length p0 : Int) != (List.length p1 : Int)) = true then (some false) else (m_laws_eqCachedS_L1 p0 p1 fuel 0)
def m_laws_eqCache (p0 : M.Cache) (p1 : M.Cache) : Option Bool :=
  if (p0.Version != p1.Version) = true then (some false) else ((m_laws_eqCachedS p0.Entries p1.Entries).bind fun x2 => (if (!x2) = true then (some false) else (some true)))
def m_laws_eqCacheS_L1 (p0 : List M.Cache) (p1 : List M.Cache) : Nat → Int → Option Bool
  | 0, _ => none
  | nL1 + 1, v5 => if (decide (v5 < (List.length p0 : Int))) = true then ((idx p0 v5).bind fun x7 => ((idx p1 v5).bind fun x12 => ((m_laws_eqCache x7 x12).bind fun x17 => (if (!x17) = true then (some false) else (m_laws_eqCacheS_L1 p0 p1 nL1 (IntKind.i64.wrap (v5 + 1))))))) else (some true)
def m_laws_eqCacheS (p0 : List M.Cache) (p1 : List M.Cache) : Option Bool :=
  if ((List.length p0 : Int) != (List.length p1 : Int)) = true then (some false) else (m_laws_eqCacheS_L1 p0 p1 fuel 0)
def m_laws_eqCacheSet (p0 : M.CacheSet) (p1 : M.CacheSet) : Option Bool :=
  (m_laws_eqCacheS p0.Caches p1.Caches).bind fun x1 => (if (!x1) = true then (some false) else (some true))
def m_laws_eqStringS_L1 (p0 : List ByteArray) (p1 : List ByteArray) : Nat → Int → Option Bool
  | 0, _ => none
  | nL1 + 1, v5 => if (decide (v5 < (List.length p0 : Int))) = true then ((idx p0 v5).bind fun x7 => ((idx p1 v5).bind fun x12 => (if (!(x7.toList == x12.toList)) = true then (some false) else (m_laws_eqStringS_L1 p0 p1 nL1 (IntKind.i64.wrap (v5 + 1)))))) else (some true)
def m_laws_eqStringS (p0 : List ByteArray) (p1 : List ByteArray) : Option Bool :=
  if ((List.length p0 : Int) != (List.length p1 : Int)) = true then (some false) else (m_laws_eqStringS_L1 p0 p1 fuel 0)
def m_laws_eqSite (p0 : M.Site) (p1 : M.Site) : Option Bool :=
  if (!(p0.Name.toList == p1.Name.toList)) = true then (some false) else (if (p0.Version != p1.Version) = true then (some false) else ((m_laws_eqStringS p0.Files p1.Files).bind fun x3 => (if (!x3) = true then (some false) else (if (!(p0.Shared == p1.Shared)) = true then (some false) else (some true)))))
def m_laws_FnExactCacheComplete (p0 : M.CacheSet) (p1 : M.Site) (p2 : Int) : Option Bool :=
  (m_laws_szCacheSet p0 1048576).bind fun x1 => (if (decide (x1 < 0)) = true then (some true) else ((m_laws_szSite p1 x1).bind fun x4 => (if (decide (x4 < 0)) = true then (some true) else ((m_laws_toCacheSet p0).bind fun x7 => ((m_laws_toSite p1).bind fun x9 => ((m_spec_CacheComplete x7 x9 p2).bind fun x11 => ((m_laws_toCacheSet p0).bind fun x13 => ((m_laws_toSite p1).bind fun x15 => ((m_impl_CacheComplete x13 x15 p2).bind fun x17 => (if (!(x17 == x11)) = true then (some false) else ((m_laws_toCacheSet p0).bind fun x20 => ((m_laws_eqCacheSet x13 x20).bind fun x22 => (if (!x22) = true then (some false) else ((m_laws_toSite p1).bind fun x25 => ((m_laws_eqSite x15 x25).bind fun x27 => (if (!x27) = true then (some false) else (some true)))))))))))))))))
end Go.Proofs.Ytfcfdnmhpdgjfaa.gen
